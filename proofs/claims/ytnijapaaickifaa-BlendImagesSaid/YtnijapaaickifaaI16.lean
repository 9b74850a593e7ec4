-- Written for this claim by a program of this session (handprint.py) that drives the kit's print. Not trusted: Lean checks it.
import Derived.Test.YtnijapaaickifaaI0
import Derived.Test.YtnijapaaickifaaI1
import Derived.Test.YtnijapaaickifaaI2
import Derived.Test.YtnijapaaickifaaI7
import Derived.Test.YtnijapaaickifaaI9
import Derived.Test.YtnijapaaickifaaI11
import Derived.Test.YtnijapaaickifaaI15
namespace Go.Proofs.Ytnijapaaickifaa.I
open Go.RowKit Go.Proofs.YtnijapaaickifaaW.PrintWords Go.Proofs.YtnijapaaickifaaW.PrintLast
attribute [local go_sem] max2_int min2_int max_two min_two max_three min_three max_four min_four
set_option linter.unusedVariables false
set_option linter.unusedSimpArgs false

attribute [local go_sem high] eqA32
/-! ### blend_names: function 41 -/
def blend_names.f  : Option (List ByteArray) := some (([(⟨#[110, 111, 114, 109, 97, 108]⟩ : ByteArray), (⟨#[109, 117, 108, 116, 105, 112, 108, 121]⟩ : ByteArray), (⟨#[115, 99, 114, 101, 101, 110]⟩ : ByteArray), (⟨#[111, 118, 101, 114, 108, 97, 121]⟩ : ByteArray), (⟨#[100, 97, 114, 107, 101, 110]⟩ : ByteArray), (⟨#[108, 105, 103, 104, 116, 101, 110]⟩ : ByteArray), (⟨#[100, 111, 100, 103, 101]⟩ : ByteArray), (⟨#[98, 117, 114, 110]⟩ : ByteArray), (⟨#[104, 97, 114, 100]⟩ : ByteArray), (⟨#[115, 111, 102, 116]⟩ : ByteArray), (⟨#[100, 105, 102, 102, 101, 114, 101, 110, 99, 101]⟩ : ByteArray), (⟨#[101, 120, 99, 108, 117, 115, 105, 111, 110]⟩ : ByteArray), (⟨#[97, 100, 100]⟩ : ByteArray), (⟨#[115, 117, 98, 116, 114, 97, 99, 116]⟩ : ByteArray), (⟨#[104, 117, 101]⟩ : ByteArray), (⟨#[115, 97, 116, 117, 114, 97, 116, 105, 111, 110]⟩ : ByteArray), (⟨#[99, 111, 108, 111, 114]⟩ : ByteArray), (⟨#[108, 117, 109, 105, 110, 111, 115, 105, 116, 121]⟩ : ByteArray)] : List ByteArray))
set_option maxHeartbeats 8000000 in
set_option maxRecDepth 100000 in
theorem blend_names.calls  (r : List ByteArray) (w : World) (h : blend_names.f  = some r) :
    Calls Try.prog 41 #[] w fun e w' => ∃ v0_ : Value, e = .returned (v0_) ∧ Kd.R Kd.string 9 w' w.heap.size (fun _ => True) v0_ r ∧ Below w.heap.size w w' := by
 have HB := Aside0.mk (Below.refl w.heap.size w)
 have H : (some (([(⟨#[110, 111, 114, 109, 97, 108]⟩ : ByteArray), (⟨#[109, 117, 108, 116, 105, 112, 108, 121]⟩ : ByteArray), (⟨#[115, 99, 114, 101, 101, 110]⟩ : ByteArray), (⟨#[111, 118, 101, 114, 108, 97, 121]⟩ : ByteArray), (⟨#[100, 97, 114, 107, 101, 110]⟩ : ByteArray), (⟨#[108, 105, 103, 104, 116, 101, 110]⟩ : ByteArray), (⟨#[100, 111, 100, 103, 101]⟩ : ByteArray), (⟨#[98, 117, 114, 110]⟩ : ByteArray), (⟨#[104, 97, 114, 100]⟩ : ByteArray), (⟨#[115, 111, 102, 116]⟩ : ByteArray), (⟨#[100, 105, 102, 102, 101, 114, 101, 110, 99, 101]⟩ : ByteArray), (⟨#[101, 120, 99, 108, 117, 115, 105, 111, 110]⟩ : ByteArray), (⟨#[97, 100, 100]⟩ : ByteArray), (⟨#[115, 117, 98, 116, 114, 97, 99, 116]⟩ : ByteArray), (⟨#[104, 117, 101]⟩ : ByteArray), (⟨#[115, 97, 116, 117, 114, 97, 116, 105, 111, 110]⟩ : ByteArray), (⟨#[99, 111, 108, 111, 114]⟩ : ByteArray), (⟨#[108, 117, 109, 105, 110, 111, 115, 105, 116, 121]⟩ : ByteArray)] : List ByteArray))) = some r := h
 clear h
 obtain ⟨y269, hy269⟩ : ∃ y_ : List ByteArray, y_ = (([(⟨#[110, 111, 114, 109, 97, 108]⟩ : ByteArray), (⟨#[109, 117, 108, 116, 105, 112, 108, 121]⟩ : ByteArray), (⟨#[115, 99, 114, 101, 101, 110]⟩ : ByteArray), (⟨#[111, 118, 101, 114, 108, 97, 121]⟩ : ByteArray), (⟨#[100, 97, 114, 107, 101, 110]⟩ : ByteArray), (⟨#[108, 105, 103, 104, 116, 101, 110]⟩ : ByteArray), (⟨#[100, 111, 100, 103, 101]⟩ : ByteArray), (⟨#[98, 117, 114, 110]⟩ : ByteArray), (⟨#[104, 97, 114, 100]⟩ : ByteArray), (⟨#[115, 111, 102, 116]⟩ : ByteArray), (⟨#[100, 105, 102, 102, 101, 114, 101, 110, 99, 101]⟩ : ByteArray), (⟨#[101, 120, 99, 108, 117, 115, 105, 111, 110]⟩ : ByteArray), (⟨#[97, 100, 100]⟩ : ByteArray), (⟨#[115, 117, 98, 116, 114, 97, 99, 116]⟩ : ByteArray), (⟨#[104, 117, 101]⟩ : ByteArray), (⟨#[115, 97, 116, 117, 114, 97, 116, 105, 111, 110]⟩ : ByteArray), (⟨#[99, 111, 108, 111, 114]⟩ : ByteArray), (⟨#[108, 117, 109, 105, 110, 111, 115, 105, 116, 121]⟩ : ByteArray)] : List ByteArray)) := ⟨_, rfl⟩
 replace H : (some y269) = some r := by first | (rw [hy269]; with_reducible exact H) | (have H2_ := (Option.bind_some _ _).symm.trans H; rw [hy269]; with_reducible exact H2_) | (have H2_ := (Option.bind_some _ _).symm.trans H; with_reducible exact H2_) | with_reducible exact H | (rw [hy269]; exact H) | exact H
 have Ny269 := Aside0.mk hy269
 clear hy269
 obtain rfl := Option.some.inj H
 go_enter Try.func41, Try.ntmps41
 go_wp2_with (first | ((with_reducible refine gate_dst (N := 1) rfl ?_); refine Kd.R_lit Kd.string _ 9 ?hg (N := 1) ?hd (xs := ([(⟨#[110, 111, 114, 109, 97, 108]⟩ : ByteArray), (⟨#[109, 117, 108, 116, 105, 112, 108, 121]⟩ : ByteArray), (⟨#[115, 99, 114, 101, 101, 110]⟩ : ByteArray), (⟨#[111, 118, 101, 114, 108, 97, 121]⟩ : ByteArray), (⟨#[100, 97, 114, 107, 101, 110]⟩ : ByteArray), (⟨#[108, 105, 103, 104, 116, 101, 110]⟩ : ByteArray), (⟨#[100, 111, 100, 103, 101]⟩ : ByteArray), (⟨#[98, 117, 114, 110]⟩ : ByteArray), (⟨#[104, 97, 114, 100]⟩ : ByteArray), (⟨#[115, 111, 102, 116]⟩ : ByteArray), (⟨#[100, 105, 102, 102, 101, 114, 101, 110, 99, 101]⟩ : ByteArray), (⟨#[101, 120, 99, 108, 117, 115, 105, 111, 110]⟩ : ByteArray), (⟨#[97, 100, 100]⟩ : ByteArray), (⟨#[115, 117, 98, 116, 114, 97, 99, 116]⟩ : ByteArray), (⟨#[104, 117, 101]⟩ : ByteArray), (⟨#[115, 97, 116, 117, 114, 97, 116, 105, 111, 110]⟩ : ByteArray), (⟨#[99, 111, 108, 111, 114]⟩ : ByteArray), (⟨#[108, 117, 109, 105, 110, 111, 115, 105, 116, 121]⟩ : ByteArray)] : List ByteArray)) (inner := [.string (⟨#[110, 111, 114, 109, 97, 108]⟩ : ByteArray), .string (⟨#[109, 117, 108, 116, 105, 112, 108, 121]⟩ : ByteArray), .string (⟨#[115, 99, 114, 101, 101, 110]⟩ : ByteArray), .string (⟨#[111, 118, 101, 114, 108, 97, 121]⟩ : ByteArray), .string (⟨#[100, 97, 114, 107, 101, 110]⟩ : ByteArray), .string (⟨#[108, 105, 103, 104, 116, 101, 110]⟩ : ByteArray), .string (⟨#[100, 111, 100, 103, 101]⟩ : ByteArray), .string (⟨#[98, 117, 114, 110]⟩ : ByteArray), .string (⟨#[104, 97, 114, 100]⟩ : ByteArray), .string (⟨#[115, 111, 102, 116]⟩ : ByteArray), .string (⟨#[100, 105, 102, 102, 101, 114, 101, 110, 99, 101]⟩ : ByteArray), .string (⟨#[101, 120, 99, 108, 117, 115, 105, 111, 110]⟩ : ByteArray), .string (⟨#[97, 100, 100]⟩ : ByteArray), .string (⟨#[115, 117, 98, 116, 114, 97, 99, 116]⟩ : ByteArray), .string (⟨#[104, 117, 101]⟩ : ByteArray), .string (⟨#[115, 97, 116, 117, 114, 97, 116, 105, 111, 110]⟩ : ByteArray), .string (⟨#[99, 111, 108, 111, 114]⟩ : ByteArray), .string (⟨#[108, 117, 109, 105, 110, 111, 115, 105, 116, 121]⟩ : ByteArray)]) (ok := fun _ => True) (okp := fun _ => True) ?hr ?hp (fun _ hk => hk) trivial (Below.refl _ _) (Nat.le_refl _) (by simp) ?_; (case hd => rfl); (case hg => rfl); (case hr => first | (go_simp; done) | (go_simp; rfl)); (case hp => exact (Reps.one (show Kd.M Kd.string _ _ _ (⟨#[110, 111, 114, 109, 97, 108]⟩ : ByteArray) [.string (⟨#[110, 111, 114, 109, 97, 108]⟩ : ByteArray)] from rfl) (Reps.one (show Kd.M Kd.string _ _ _ (⟨#[109, 117, 108, 116, 105, 112, 108, 121]⟩ : ByteArray) [.string (⟨#[109, 117, 108, 116, 105, 112, 108, 121]⟩ : ByteArray)] from rfl) (Reps.one (show Kd.M Kd.string _ _ _ (⟨#[115, 99, 114, 101, 101, 110]⟩ : ByteArray) [.string (⟨#[115, 99, 114, 101, 101, 110]⟩ : ByteArray)] from rfl) (Reps.one (show Kd.M Kd.string _ _ _ (⟨#[111, 118, 101, 114, 108, 97, 121]⟩ : ByteArray) [.string (⟨#[111, 118, 101, 114, 108, 97, 121]⟩ : ByteArray)] from rfl) (Reps.one (show Kd.M Kd.string _ _ _ (⟨#[100, 97, 114, 107, 101, 110]⟩ : ByteArray) [.string (⟨#[100, 97, 114, 107, 101, 110]⟩ : ByteArray)] from rfl) (Reps.one (show Kd.M Kd.string _ _ _ (⟨#[108, 105, 103, 104, 116, 101, 110]⟩ : ByteArray) [.string (⟨#[108, 105, 103, 104, 116, 101, 110]⟩ : ByteArray)] from rfl) (Reps.one (show Kd.M Kd.string _ _ _ (⟨#[100, 111, 100, 103, 101]⟩ : ByteArray) [.string (⟨#[100, 111, 100, 103, 101]⟩ : ByteArray)] from rfl) (Reps.one (show Kd.M Kd.string _ _ _ (⟨#[98, 117, 114, 110]⟩ : ByteArray) [.string (⟨#[98, 117, 114, 110]⟩ : ByteArray)] from rfl) (Reps.one (show Kd.M Kd.string _ _ _ (⟨#[104, 97, 114, 100]⟩ : ByteArray) [.string (⟨#[104, 97, 114, 100]⟩ : ByteArray)] from rfl) (Reps.one (show Kd.M Kd.string _ _ _ (⟨#[115, 111, 102, 116]⟩ : ByteArray) [.string (⟨#[115, 111, 102, 116]⟩ : ByteArray)] from rfl) (Reps.one (show Kd.M Kd.string _ _ _ (⟨#[100, 105, 102, 102, 101, 114, 101, 110, 99, 101]⟩ : ByteArray) [.string (⟨#[100, 105, 102, 102, 101, 114, 101, 110, 99, 101]⟩ : ByteArray)] from rfl) (Reps.one (show Kd.M Kd.string _ _ _ (⟨#[101, 120, 99, 108, 117, 115, 105, 111, 110]⟩ : ByteArray) [.string (⟨#[101, 120, 99, 108, 117, 115, 105, 111, 110]⟩ : ByteArray)] from rfl) (Reps.one (show Kd.M Kd.string _ _ _ (⟨#[97, 100, 100]⟩ : ByteArray) [.string (⟨#[97, 100, 100]⟩ : ByteArray)] from rfl) (Reps.one (show Kd.M Kd.string _ _ _ (⟨#[115, 117, 98, 116, 114, 97, 99, 116]⟩ : ByteArray) [.string (⟨#[115, 117, 98, 116, 114, 97, 99, 116]⟩ : ByteArray)] from rfl) (Reps.one (show Kd.M Kd.string _ _ _ (⟨#[104, 117, 101]⟩ : ByteArray) [.string (⟨#[104, 117, 101]⟩ : ByteArray)] from rfl) (Reps.one (show Kd.M Kd.string _ _ _ (⟨#[115, 97, 116, 117, 114, 97, 116, 105, 111, 110]⟩ : ByteArray) [.string (⟨#[115, 97, 116, 117, 114, 97, 116, 105, 111, 110]⟩ : ByteArray)] from rfl) (Reps.one (show Kd.M Kd.string _ _ _ (⟨#[99, 111, 108, 111, 114]⟩ : ByteArray) [.string (⟨#[99, 111, 108, 111, 114]⟩ : ByteArray)] from rfl) (Reps.one (show Kd.M Kd.string _ _ _ (⟨#[108, 117, 109, 105, 110, 111, 115, 105, 116, 121]⟩ : ByteArray) [.string (⟨#[108, 117, 109, 105, 110, 111, 115, 105, 116, 121]⟩ : ByteArray)] from rfl) (Reps.none _ _)))))))))))))))))))); intro v270 w1 ho2 hb hg_ hnew_; clear hg_ hnew_; (first | rw [← Ny269.out] at ho2 | (simp only [Int.reduceToNat] at ho2; rw [← Ny269.out] at ho2)); have HO271 := Aside0.mk (Kd.R_lower ho2 (below_size (pb HB.out))); replace HB := Aside0.mk (below_step (pb HB.out) hb); clear hb ho2))
 go_ret
 exact ⟨_, by first | rfl | (simp [errW_none, errW_some] <;> rfl) | (simp [*, errW_none, errW_some] <;> rfl), by (with_reducible repeat (first | apply Kd.R_alloc | apply Kd.R_drewN | apply Kd.R_drew)); exact HO271.out, pb HB.out⟩

/-! ### blend_Name: function 20 -/
def blend_Name.f (a0 : Int) : Option (ByteArray) := (blend_Valid.f a0).bind fun t272 => (if t272 = true then ((blend_names.f).bind fun t273 => (if 0 ≤ a0 then (if a0 < (t273.length : Int) then (some (rdOf ByteArray.empty t273 a0)) else (none)) else (none))) else (some (⟨#[]⟩ : ByteArray)))
set_option maxHeartbeats 8000000 in
set_option maxRecDepth 100000 in
theorem blend_Name.calls (a0 : Int) (r : ByteArray) (w : World) (h : blend_Name.f a0 = some r) :
    Calls Try.prog 20 #[.int .i64 a0] w fun e w' => e = .returned (.string r) ∧ Below w.heap.size w w' := by
 have HB := Aside0.mk (Below.refl w.heap.size w)
 have H : ((blend_Valid.f a0).bind fun t272 => (if t272 = true then ((blend_names.f).bind fun t273 => (if 0 ≤ a0 then (if a0 < (t273.length : Int) then (some (rdOf ByteArray.empty t273 a0)) else (none)) else (none))) else (some (⟨#[]⟩ : ByteArray)))) = some r := h
 clear h
 replace H := Option.bind_eq_some_iff.mp H
 obtain ⟨t272, A20, H⟩ := H
 replace H : (if t272 = true then ((blend_names.f).bind fun t273 => (if 0 ≤ a0 then (if a0 < (t273.length : Int) then (some (rdOf ByteArray.empty t273 a0)) else (none)) else (none))) else (some (⟨#[]⟩ : ByteArray))) = some r := H
 have A2 := Aside0.mk A20
 clear A20
 by_cases c3 : t272 = true
 ·subst c3
  have H1 : ((blend_names.f).bind fun t273 => (if 0 ≤ a0 then (if a0 < (t273.length : Int) then (some (rdOf ByteArray.empty t273 a0)) else (none)) else (none))) = some r := by rw [if_pos rfl] at H; exact H
  clear H
  have H := H1
  clear H1
  replace H := Option.bind_eq_some_iff.mp H
  obtain ⟨t273, A40, H⟩ := H
  replace H : (if 0 ≤ a0 then (if a0 < (t273.length : Int) then (some (rdOf ByteArray.empty t273 a0)) else (none)) else (none)) = some r := H
  have A4 := Aside0.mk A40
  clear A40
  by_cases c5 : 0 ≤ a0
  rotate_left
  ·rw [if_neg c5] at H
   exact absurd H (by simp)
  rw [if_pos c5] at H
  have c5b0 : decide (0 ≤ a0) = true := decide_eq_true c5
  clear c5
  by_cases c6 : a0 < (t273.length : Int)
  rotate_left
  ·rw [if_neg c6] at H
   exact absurd H (by simp)
  rw [if_pos c6] at H
  have c6b0 : decide (a0 < (t273.length : Int)) = true := decide_eq_true c6
  clear c6
  obtain rfl := Option.some.inj H
  go_enter Try.func20, Try.ntmps20
  go_wp2_with (first | ((with_reducible refine gate_callee (f := 18) rfl ?_); refine goesL_ (some 4) rfl rfl Try.func18 (by kernel_rfl) rfl #[.int .i64 a0] rfl pm ?_; (with_reducible refine (blend_Valid.calls a0 true _ A2.out).mono ?_); rintro e w' ⟨rfl, ⟨nd, rfl⟩⟩; refine ⟨_, rfl, ?_⟩) | ((with_reducible refine gate_callee (f := 41) rfl ?_); refine goesL_ (some 6) rfl rfl Try.func41 (by kernel_rfl) rfl #[] rfl pm ?_; (with_reducible refine (blend_names.calls  t273 _ A4.out).mono ?_); rintro e w7 ⟨v274, rfl, ho0, hb⟩; refine ⟨_, rfl, ?_⟩; have HO275 := Aside0.mk (Kd.R_lower ho0 (below_size (pb HB.out))); replace HB := Aside0.mk (below_step (pb HB.out) hb); (try clear hb); (try clear hb2); (try clear hk); (try clear hi); (try clear ho0); obtain ⟨Ao8, co8, eo8⟩ := Kd.R_slice HO275.out; subst eo8; have p276 : 0 ≤ (a0 : Int) := of_decide_eq_true (by first | (with_reducible assumption) | assumption); have q276 : a0 < (t273.length : Int) := of_decide_eq_true (by first | (with_reducible assumption) | assumption); obtain ⟨ad276, e276, hx276_0⟩ := Kd.at_string (Kd.R_reads' HO275.out).2.2 a0 p276 q276; cases e276; replace p276 := eq_true p276; replace q276 := eq_true q276))
  go_ret
  exact ⟨by first | rfl | (simp [errW_none, errW_some] <;> rfl) | (simp [*, errW_none, errW_some] <;> rfl), pb HB.out⟩
 ·replace c3 := Bool.eq_false_iff.mpr c3
  subst c3
  have H1 : (some (⟨#[]⟩ : ByteArray)) = some r := by rw [if_neg (show ¬ (false = true) by decide)] at H; exact H
  clear H
  have H := H1
  clear H1
  obtain rfl := Option.some.inj H
  go_enter Try.func20, Try.ntmps20
  go_wp2_with (first | ((with_reducible refine gate_callee (f := 18) rfl ?_); refine goesL_ (some 4) rfl rfl Try.func18 (by kernel_rfl) rfl #[.int .i64 a0] rfl pm ?_; (with_reducible refine (blend_Valid.calls a0 false _ A2.out).mono ?_); rintro e w' ⟨rfl, ⟨nd, rfl⟩⟩; refine ⟨_, rfl, ?_⟩))
  go_ret
  exact ⟨by first | rfl | (simp [errW_none, errW_some] <;> rfl) | (simp [*, errW_none, errW_some] <;> rfl), pb HB.out⟩

/-! ### blend_Channel: function 22 -/
def blend_Channel.f (a0 : Int) (a1 : Int) (a2 : Int) : Option (Int) := (blend_unit.f a1).bind fun t279 => ((blend_unit.f a2).bind fun t280 => ((chan.f t279 t280 a0 (ofsign a0)).bind fun t281 => (some t281)))
set_option maxHeartbeats 8000000 in
set_option maxRecDepth 100000 in
theorem blend_Channel.calls (a0 : Int) (a1 : Int) (a2 : Int) (r : Int) (w : World) (h : blend_Channel.f a0 a1 a2 = some r) :
    Calls Try.prog 22 #[.int .i64 a0, .int .i64 a1, .int .i64 a2] w fun e w' => e = .returned (.int .i64 r) ∧ Below w.heap.size w w' := by
 have HB := Aside0.mk (Below.refl w.heap.size w)
 have H : ((blend_unit.f a1).bind fun t279 => ((blend_unit.f a2).bind fun t280 => ((chan.f t279 t280 a0 (ofsign a0)).bind fun t281 => (some t281)))) = some r := h
 clear h
 replace H := Option.bind_eq_some_iff.mp H
 obtain ⟨t279, A40, H⟩ := H
 replace H : ((blend_unit.f a2).bind fun t280 => ((chan.f t279 t280 a0 (ofsign a0)).bind fun t281 => (some t281))) = some r := H
 have A4 := Aside0.mk A40
 clear A40
 replace H := Option.bind_eq_some_iff.mp H
 obtain ⟨t280, A50, H⟩ := H
 replace H : ((chan.f t279 t280 a0 (ofsign a0)).bind fun t281 => (some t281)) = some r := H
 have A5 := Aside0.mk A50
 clear A50
 replace H := Option.bind_eq_some_iff.mp H
 obtain ⟨t281, A60, H⟩ := H
 replace H : (some t281) = some r := H
 have A6 := Aside0.mk A60
 clear A60
 obtain rfl := Option.some.inj H
 go_enter Try.func22, Try.ntmps22
 go_wp2_with (first | ((with_reducible refine gate_callee (f := 43) rfl ?_); refine goesL_ (some 8) rfl rfl Try.func43 (by kernel_rfl) rfl #[.int .i64 a0] rfl (by (try simp only [List.map_toArray, List.map_cons, List.map_nil]); first | done | rfl) ?_; (with_reducible refine (blend_of.calls a0 _).mono ?_); rintro e w7 ⟨ff_, fc_, gA, gB, rfl, hof, hbox, hbox2, hgm, hgs, hne, hb⟩; refine ⟨_, rfl, ?_⟩; have HOF := Aside0.mk (hof); have KA := Aside0.mk hbox; have KB := Aside0.mk (hbox2); have GWA := Aside0.mk ((Nat.le_trans (below_size (pb HB.out)) hgm : w.heap.size ≤ gA)); have GWB := Aside0.mk ((Nat.le_trans (below_size (pb HB.out)) hgs : w.heap.size ≤ gB)); have GEA := Aside0.mk ((Nat.le_trans (below_size (pb HB.out)) hgm : w.heap.size ≤ gA)); have GEB := Aside0.mk ((Nat.le_trans (below_size (pb HB.out)) hgs : w.heap.size ≤ gB)); have NAB := Aside0.mk (hne); have NBA := Aside0.mk (hne.symm); replace HB := Aside0.mk (below_step (pb HB.out) hb); clear hb hbox hbox2 hgm hgs hne hof) | ((with_reducible refine gate_callee (f := 32) rfl ?_); refine goesL_ (some 10) rfl rfl Try.func32 (by kernel_rfl) rfl #[.int .i64 a1] rfl pm ?_; (with_reducible refine (blend_unit.calls a1 t279 _ A4.out).mono ?_); rintro e w8 ⟨rfl, hb⟩; refine ⟨_, rfl, ?_⟩; replace KA := bp_ KA hb; replace KB := bp_ KB hb; replace HB := Aside0.mk (below_step (pb2 HB.out GEA.out GEB.out) hb); (try clear hb); (try clear hb2); (try clear hk); (try clear hi)) | ((with_reducible refine gate_callee (f := 32) rfl ?_); refine goesL_ (some 12) rfl rfl Try.func32 (by kernel_rfl) rfl #[.int .i64 a2] rfl pm ?_; (with_reducible refine (blend_unit.calls a2 t280 _ A5.out).mono ?_); rintro e w9 ⟨rfl, hb⟩; refine ⟨_, rfl, ?_⟩; replace KA := bp_ KA hb; replace KB := bp_ KB hb; replace HB := Aside0.mk (below_step (pb2 HB.out GEA.out GEB.out) hb); (try clear hb); (try clear hb2); (try clear hk); (try clear hi)) | (refine goesFL_ (some 13) rfl rfl HOF.out #[.int .i64 t279, .int .i64 t280] rfl rfl pm ?_; (with_reducible refine (IsOf.calls HOF.out t279 t280  a0  (ofsign a0) t281 _ ?side1 ?side2 A6.out).mono ?_); (case side1 => refine pl ?_; exact KA.out); (case side2 => refine pl ?_; exact KB.out); rintro e w10 ⟨rfl, hb⟩; refine ⟨_, rfl, ?_⟩; replace KA := bp_ KA hb; replace KB := bp_ KB hb; replace HB := Aside0.mk (below_step (pb2 HB.out GEA.out GEB.out) hb); (try clear hb); (try clear hb2); (try clear hk); (try clear hi)))
 go_ret
 exact ⟨by first | rfl | (simp [errW_none, errW_some] <;> rfl) | (simp [*, errW_none, errW_some] <;> rfl), pb2 HB.out GEA.out GEB.out⟩

/-! ### imageeditorlaw10_example: function 13 -/
def imageeditorlaw10_example.f (k : Nat)  : Option (Bool) := (blend_Image.f k 18 0 0 0 ([] : List (S32)) 0 0 ([] : List (S32))).bind fun bt284 => ((blend_Over.f k 0 65535 0 0 65535 0 65535 0 32768).bind fun bt291 => (if (bt291.1 == 32767 && (bt291.2.1 == 32768 && (bt291.2.2.1 == 0 && (bt291.2.2.2 == 65535)))) = true then ((blend_Colors.f k 17 65535 0 0 65535 0 0 0 0).bind fun bt295 => (if (bt295.1 == 0 && (bt295.2.1 == 0 && (bt295.2.2.1 == 0 && (bt295.2.2.2 == 65535)))) = true then ((blend_Channel.f 9 32768 65535).bind fun t299 => (if t299 = 49152 then ((blend_Channel.f 7 65535 0).bind fun t300 => (if t300 = 65535 then ((blend_Channel.f 13 9 5).bind fun t301 => (if t301 = 4 then (if bt284.2.2.2 = 8 then ((blend_Name.f 17).bind fun t302 => (some (t302.toList == ([108, 117, 109, 105, 110, 111, 115, 105, 116, 121] : List UInt8)))) else (none)) else (none))) else (none))) else (none))) else (none))) else (none)))
theorem imageeditorlaw10_example.mono : ∀ k, LeO (imageeditorlaw10_example.f k ) (imageeditorlaw10_example.f (k + 1) ) := by
  intro  k
  unfold imageeditorlaw10_example.f
  repeat' first
      | (with_reducible exact blend_Colors.mono _ _ _ _ _ _ _ _ _ _)
      | (with_reducible exact blend_Image.mono _ _ _ _ _ _ _ _ _)
      | (with_reducible exact blend_Over.mono _ _ _ _ _ _ _ _ _ _)
      | (with_reducible exact LeO.refl _)
      | (with_reducible exact LeO.none _)
      | (with_reducible refine LeO.ite ?_ ?_)
      | (with_reducible refine LeO.bind ?_ (fun _ => ?_))
      | exact blend_Colors.mono _ _ _ _ _ _ _ _ _ _
      | exact blend_Image.mono _ _ _ _ _ _ _ _ _
      | exact blend_Over.mono _ _ _ _ _ _ _ _ _ _
      | exact LeO.none _
      | refine LeO.ite ?_ ?_
      | refine LeO.bind ?_ (fun _ => ?_)
set_option maxHeartbeats 8000000 in
set_option maxRecDepth 100000 in
theorem imageeditorlaw10_example.calls (k : Nat)  (r : Bool) (w : World) (h : imageeditorlaw10_example.f k  = some r) :
    Calls Try.prog 13 #[] w fun e w' => e = .returned (.bool r) ∧ Below w.heap.size w w' := by
 have hu32 := Try.underlying32
 have hu24 := Try.underlying24
 have HB := Aside0.mk (Below.refl w.heap.size w)
 have H : ((blend_Image.f k 18 0 0 0 ([] : List (S32)) 0 0 ([] : List (S32))).bind fun bt284 => ((blend_Over.f k 0 65535 0 0 65535 0 65535 0 32768).bind fun bt291 => (if (bt291.1 == 32767 && (bt291.2.1 == 32768 && (bt291.2.2.1 == 0 && (bt291.2.2.2 == 65535)))) = true then ((blend_Colors.f k 17 65535 0 0 65535 0 0 0 0).bind fun bt295 => (if (bt295.1 == 0 && (bt295.2.1 == 0 && (bt295.2.2.1 == 0 && (bt295.2.2.2 == 65535)))) = true then ((blend_Channel.f 9 32768 65535).bind fun t299 => (if t299 = 49152 then ((blend_Channel.f 7 65535 0).bind fun t300 => (if t300 = 65535 then ((blend_Channel.f 13 9 5).bind fun t301 => (if t301 = 4 then (if bt284.2.2.2 = 8 then ((blend_Name.f 17).bind fun t302 => (some (t302.toList == ([108, 117, 109, 105, 110, 111, 115, 105, 116, 121] : List UInt8)))) else (none)) else (none))) else (none))) else (none))) else (none))) else (none)))) = some r := h
 clear h
 replace H := Option.bind_eq_some_iff.mp H
 obtain ⟨⟨t284, t285, t286, t289⟩, A10, H⟩ := H
 replace H : ((blend_Over.f k 0 65535 0 0 65535 0 65535 0 32768).bind fun bt291 => (if (bt291.1 == 32767 && (bt291.2.1 == 32768 && (bt291.2.2.1 == 0 && (bt291.2.2.2 == 65535)))) = true then ((blend_Colors.f k 17 65535 0 0 65535 0 0 0 0).bind fun bt295 => (if (bt295.1 == 0 && (bt295.2.1 == 0 && (bt295.2.2.1 == 0 && (bt295.2.2.2 == 65535)))) = true then ((blend_Channel.f 9 32768 65535).bind fun t299 => (if t299 = 49152 then ((blend_Channel.f 7 65535 0).bind fun t300 => (if t300 = 65535 then ((blend_Channel.f 13 9 5).bind fun t301 => (if t301 = 4 then (if t289 = 8 then ((blend_Name.f 17).bind fun t302 => (some (t302.toList == ([108, 117, 109, 105, 110, 111, 115, 105, 116, 121] : List UInt8)))) else (none)) else (none))) else (none))) else (none))) else (none))) else (none))) = some r := H
 have A1 := Aside0.mk A10
 clear A10
 replace H := Option.bind_eq_some_iff.mp H
 obtain ⟨⟨t291, t292, t293, t294⟩, A20, H⟩ := H
 replace H : (if (t291 == 32767 && (t292 == 32768 && (t293 == 0 && (t294 == 65535)))) = true then ((blend_Colors.f k 17 65535 0 0 65535 0 0 0 0).bind fun bt295 => (if (bt295.1 == 0 && (bt295.2.1 == 0 && (bt295.2.2.1 == 0 && (bt295.2.2.2 == 65535)))) = true then ((blend_Channel.f 9 32768 65535).bind fun t299 => (if t299 = 49152 then ((blend_Channel.f 7 65535 0).bind fun t300 => (if t300 = 65535 then ((blend_Channel.f 13 9 5).bind fun t301 => (if t301 = 4 then (if t289 = 8 then ((blend_Name.f 17).bind fun t302 => (some (t302.toList == ([108, 117, 109, 105, 110, 111, 115, 105, 116, 121] : List UInt8)))) else (none)) else (none))) else (none))) else (none))) else (none))) else (none)) = some r := H
 have A2 := Aside0.mk A20
 clear A20
 by_cases c3 : (t291 == 32767 && (t292 == 32768 && (t293 == 0 && (t294 == 65535)))) = true
 rotate_left
 ·rw [if_neg c3] at H
  exact absurd H (by simp)

 rw [if_pos c3] at H
 have c3b0 : (t291 == 32767 && (t292 == 32768 && (t293 == 0 && (t294 == 65535)))) = true := c3
 (try (have c3b1 : decide (t291 = 32767 && (t292 == 32768 && (t293 == 0 && (t294 == 65535)))) = true := by simpa using c3))
 (try (have c3b2 : (t291 == 32767 && (t292 == 32768 && (t293 == 0 && (t294 == 65535)))) = true := by simpa using c3))
 clear c3
 replace H := Option.bind_eq_some_iff.mp H
 obtain ⟨⟨t295, t296, t297, t298⟩, A40, H⟩ := H
 replace H : (if (t295 == 0 && (t296 == 0 && (t297 == 0 && (t298 == 65535)))) = true then ((blend_Channel.f 9 32768 65535).bind fun t299 => (if t299 = 49152 then ((blend_Channel.f 7 65535 0).bind fun t300 => (if t300 = 65535 then ((blend_Channel.f 13 9 5).bind fun t301 => (if t301 = 4 then (if t289 = 8 then ((blend_Name.f 17).bind fun t302 => (some (t302.toList == ([108, 117, 109, 105, 110, 111, 115, 105, 116, 121] : List UInt8)))) else (none)) else (none))) else (none))) else (none))) else (none)) = some r := H
 have A4 := Aside0.mk A40
 clear A40
 by_cases c5 : (t295 == 0 && (t296 == 0 && (t297 == 0 && (t298 == 65535)))) = true
 rotate_left
 ·rw [if_neg c5] at H
  exact absurd H (by simp)
 rw [if_pos c5] at H
 have c5b0 : (t295 == 0 && (t296 == 0 && (t297 == 0 && (t298 == 65535)))) = true := c5
 (try (have c5b1 : decide (t295 = 0 && (t296 == 0 && (t297 == 0 && (t298 == 65535)))) = true := by simpa using c5))
 (try (have c5b2 : (t295 == 0 && (t296 == 0 && (t297 == 0 && (t298 == 65535)))) = true := by simpa using c5))
 clear c5
 replace H := Option.bind_eq_some_iff.mp H
 obtain ⟨t299, A60, H⟩ := H
 replace H : (if t299 = 49152 then ((blend_Channel.f 7 65535 0).bind fun t300 => (if t300 = 65535 then ((blend_Channel.f 13 9 5).bind fun t301 => (if t301 = 4 then (if t289 = 8 then ((blend_Name.f 17).bind fun t302 => (some (t302.toList == ([108, 117, 109, 105, 110, 111, 115, 105, 116, 121] : List UInt8)))) else (none)) else (none))) else (none))) else (none)) = some r := H
 have A6 := Aside0.mk A60
 clear A60
 by_cases c7 : t299 = 49152
 rotate_left
 ·rw [if_neg c7] at H
  exact absurd H (by simp)
 rw [if_pos c7] at H
 have c7b0 : (t299 == 49152) = true := beq_iff_eq.mpr c7
 have c7b1 : (t299 != 49152) = false := bne_eq_false_iff_eq.mpr c7
 clear c7
 replace H := Option.bind_eq_some_iff.mp H
 obtain ⟨t300, A80, H⟩ := H
 replace H : (if t300 = 65535 then ((blend_Channel.f 13 9 5).bind fun t301 => (if t301 = 4 then (if t289 = 8 then ((blend_Name.f 17).bind fun t302 => (some (t302.toList == ([108, 117, 109, 105, 110, 111, 115, 105, 116, 121] : List UInt8)))) else (none)) else (none))) else (none)) = some r := H
 have A8 := Aside0.mk A80
 clear A80
 by_cases c9 : t300 = 65535
 rotate_left
 ·rw [if_neg c9] at H
  exact absurd H (by simp)
 rw [if_pos c9] at H
 have c9b0 : (t300 == 65535) = true := beq_iff_eq.mpr c9
 have c9b1 : (t300 != 65535) = false := bne_eq_false_iff_eq.mpr c9
 clear c9
 replace H := Option.bind_eq_some_iff.mp H
 obtain ⟨t301, A100, H⟩ := H
 replace H : (if t301 = 4 then (if t289 = 8 then ((blend_Name.f 17).bind fun t302 => (some (t302.toList == ([108, 117, 109, 105, 110, 111, 115, 105, 116, 121] : List UInt8)))) else (none)) else (none)) = some r := H
 have A10 := Aside0.mk A100
 clear A100
 by_cases c11 : t301 = 4
 rotate_left
 ·rw [if_neg c11] at H
  exact absurd H (by simp)
 rw [if_pos c11] at H
 have c11b0 : (t301 == 4) = true := beq_iff_eq.mpr c11
 have c11b1 : (t301 != 4) = false := bne_eq_false_iff_eq.mpr c11
 clear c11
 by_cases c12 : t289 = 8
 rotate_left
 ·rw [if_neg c12] at H
  exact absurd H (by simp)
 rw [if_pos c12] at H
 have c12b0 : (t289 == 8) = true := beq_iff_eq.mpr c12
 have c12b1 : (t289 != 8) = false := bne_eq_false_iff_eq.mpr c12
 clear c12
 replace H := Option.bind_eq_some_iff.mp H
 obtain ⟨t302, A130, H⟩ := H
 replace H : (some (t302.toList == ([108, 117, 109, 105, 110, 111, 115, 105, 116, 121] : List UInt8))) = some r := H
 have A13 := Aside0.mk A130
 clear A130
 obtain rfl := Option.some.inj H
 go_enter Try.func13, Try.ntmps13
 go_wp2_with (first | ((with_reducible refine gate_dst (N := 1) rfl ?_); refine box_event ?hg (N := 1) ?hd (cs := #[.int .i64 0, .int .i64 0, .int .i64 0, .int .i64 0]) (t := 32) ?hr ?_; (case hd => rfl); (case hg => rfl); (case hr => first | (go_simp; done) | (go_simp; rfl)); intro gA hg w14 hbox hb; have KA := Aside0.mk hbox; have GWA := ge_ hg (pb HB.out); have GEA := ge_ hg (pb HB.out); replace HB := Aside0.mk (below_step (pb HB.out) hb); clear hb hbox hg) | ((with_reducible refine gate_dst (N := 2) rfl ?_); refine box_event ?hg (N := 2) ?hd (cs := #[.int .i64 0, .int .i64 0, .int .i64 0, .int .i64 0]) (t := 32) ?hr ?_; (case hd => rfl); (case hg => rfl); (case hr => first | (go_simp; done) | (go_simp; rfl)); intro gB hg w15 hbox hb; have c0_ := cp_ hb KA; have KB := Aside0.mk hbox; have GWB := ge_ hg (pb1 HB.out GEA.out); have GEB := ge_ hg (pb1 HB.out GEA.out); have NAB := nl_ hg c0_; have NBA := ng_ hg c0_; replace KA := bb_ c0_ hb; replace HB := Aside0.mk (below_step (pb1 HB.out GEA.out) hb); clear c0_; clear hb hbox hg; have hnb16 := NAB.out; have hnc16 := NBA.out; have hcz17_0 := ci_ KA 0 (.int .i64 0); have hcz17_1 := ci_ KA 1 (.int .i64 0); have hcz17_2 := ci_ KA 2 (.int .i64 0); have hcz17_3 := ci_ KA 3 (.int .i64 0); have hfz17_0 := blk_frozen KA.out 0; have hfz17_1 := blk_frozen KA.out 1; have hfz17_2 := blk_frozen KA.out 2; have hfz17_3 := blk_frozen KA.out 3; have hcz18_0 := ci_ KB 0 (.int .i64 0); have hcz18_1 := ci_ KB 1 (.int .i64 0); have hcz18_2 := ci_ KB 2 (.int .i64 0); have hcz18_3 := ci_ KB 3 (.int .i64 0); have hfz18_0 := blk_frozen KB.out 0; have hfz18_1 := blk_frozen KB.out 1; have hfz18_2 := blk_frozen KB.out 2; have hfz18_3 := blk_frozen KB.out 3) | ((with_reducible refine gate_callee (f := 12) rfl ?_); refine goesL_ (some 10) rfl rfl Try.func12 (by kernel_rfl) rfl #[.int .i64 18, .int .i64 0, .agg #[.int .i64 0, .int .i64 0, .slice none 0 0], .agg #[.int .i64 0, .int .i64 0, .slice none 0 0]] rfl pm ?_; (refine (blend_Image.calls k 18 0 0 0 _ _ ([] : List (S32)) 0 0 _ _ ([] : List (S32)) t284 t285 t286 t289 _ ?side1 ?side2 ?side3 ?side4 A1.out).mono ?_); (case side1 => exact Kd.C_nil _ _); (case side2 => exact Nat.le_refl _); (case side3 => exact Kd.C_nil _ _); (case side4 => exact Nat.le_refl _); rintro e w19 ⟨v287, rfl, ho0, hb⟩; refine ⟨_, rfl, ?_⟩; have c0_ := co_ (g := gA) (o := .cells #[.int .i64 65535, .int .i64 0, .int .i64 0, .int .i64 65535] 32 (0, 0)) hb (by refine pf ?_ NAB.out; refine pl ?_; refine blk_put (cs := #[.int .i64 65535, .int .i64 0, .int .i64 0, .int .i64 0]) ?_ 3 _ rfl; refine pl ?_; refine blk_put (cs := #[.int .i64 65535, .int .i64 0, .int .i64 0, .int .i64 0]) ?_ 2 _ rfl; refine pl ?_; refine blk_put (cs := #[.int .i64 65535, .int .i64 0, .int .i64 0, .int .i64 0]) ?_ 1 _ rfl; refine pl ?_; refine blk_put (cs := #[.int .i64 0, .int .i64 0, .int .i64 0, .int .i64 0]) ?_ 0 _ rfl; refine pl ?_; exact KA.out); have c1_ := co_ (g := gB) (o := .cells #[.int .i64 0, .int .i64 65535, .int .i64 0, .int .i64 32768] 32 (0, 0)) hb (by refine pl ?_; refine blk_put (cs := #[.int .i64 0, .int .i64 65535, .int .i64 0, .int .i64 0]) ?_ 3 _ rfl; refine pl ?_; refine blk_put (cs := #[.int .i64 0, .int .i64 65535, .int .i64 0, .int .i64 0]) ?_ 2 _ rfl; refine pl ?_; refine blk_put (cs := #[.int .i64 0, .int .i64 0, .int .i64 0, .int .i64 0]) ?_ 1 _ rfl; refine pl ?_; refine blk_put (cs := #[.int .i64 0, .int .i64 0, .int .i64 0, .int .i64 0]) ?_ 0 _ rfl; refine pf ?_ NBA.out; refine pl ?_; exact KB.out); have HO288 := Aside0.mk (Kd.R_lower (Kd.R_newB (Kd.R_newB ho0 (g := gA) (o := .cells #[.int .i64 65535, .int .i64 0, .int .i64 0, .int .i64 65535] 32 (0, 0)) (by refine pl ?_; refine blk_far ?_ NAB.out _; refine pl ?_; refine blk_far ?_ NAB.out _; refine pl ?_; refine blk_far ?_ NAB.out _; refine pl ?_; refine blk_far ?_ NAB.out _; refine pl ?_; refine blk_put (cs := #[.int .i64 65535, .int .i64 0, .int .i64 0, .int .i64 0]) ?_ 3 _ rfl; refine pl ?_; refine blk_put (cs := #[.int .i64 65535, .int .i64 0, .int .i64 0, .int .i64 0]) ?_ 2 _ rfl; refine pl ?_; refine blk_put (cs := #[.int .i64 65535, .int .i64 0, .int .i64 0, .int .i64 0]) ?_ 1 _ rfl; refine pl ?_; refine blk_put (cs := #[.int .i64 0, .int .i64 0, .int .i64 0, .int .i64 0]) ?_ 0 _ rfl; refine pl ?_; exact KA.out)) (g := gB) (o := .cells #[.int .i64 0, .int .i64 65535, .int .i64 0, .int .i64 32768] 32 (0, 0)) (by refine pl ?_; refine blk_put (cs := #[.int .i64 0, .int .i64 65535, .int .i64 0, .int .i64 0]) ?_ 3 _ rfl; refine pl ?_; refine blk_put (cs := #[.int .i64 0, .int .i64 65535, .int .i64 0, .int .i64 0]) ?_ 2 _ rfl; refine pl ?_; refine blk_put (cs := #[.int .i64 0, .int .i64 0, .int .i64 0, .int .i64 0]) ?_ 1 _ rfl; refine pl ?_; refine blk_put (cs := #[.int .i64 0, .int .i64 0, .int .i64 0, .int .i64 0]) ?_ 0 _ rfl; refine pl ?_; refine blk_far ?_ NBA.out _; refine pl ?_; refine blk_far ?_ NBA.out _; refine pl ?_; refine blk_far ?_ NBA.out _; refine pl ?_; refine blk_far ?_ NBA.out _; refine pl ?_; exact KB.out)) (below_size (pb2 HB.out GEA.out GEB.out))); replace KA := bb_ c0_ hb; replace KB := bb_ c1_ hb; replace HB := Aside0.mk (below_step (pb2 HB.out GEA.out GEB.out) hb); clear c0_ c1_; (try clear hb); (try clear hb2); (try clear hk); (try clear hi); (try clear ho0)) | ((with_reducible refine gate_dst (N := 3) rfl ?_); refine box_event ?hg (N := 3) ?hd (cs := #[.int .i64 0, .int .i64 0, .slice none 0 0]) (t := 24) ?hr ?_; (case hd => rfl); (case hg => rfl); (case hr => first | (go_simp; done) | (go_simp; rfl)); intro gC hg w20 hbox hb; have c0_ := cp_ hb KA; have c1_ := cp_ hb KB; have KC := Aside0.mk hbox; have GWC := ge_ hg (pb2 HB.out GEA.out GEB.out); have GEC := ge_ hg (pb2 HB.out GEA.out GEB.out); have NAC := nl_ hg c0_; have NCA := ng_ hg c0_; have NBC := nl_ hg c1_; have NCB := ng_ hg c1_; replace HO288 := Aside0.mk (Kd.R_below (by (with_reducible repeat (first | apply Kd.R_alloc | apply Kd.R_drewN | apply Kd.R_drew)); exact HO288.out) hb); replace KA := bb_ c0_ hb; replace KB := bb_ c1_ hb; replace HB := Aside0.mk (below_step (pb2 HB.out GEA.out GEB.out) hb); clear c0_ c1_; clear hb hbox hg; have hnb21 := NCA.out; have hnc21 := NAC.out; have hnb22 := NCB.out; have hnc22 := NBC.out; have hcz23_0 := ci_ KC 0 (.int .i64 0); have hcz23_1 := ci_ KC 1 (.int .i64 0); have hcz23_2 := ci_ KC 2 (.slice none 0 0); have hfz23_0 := blk_frozen KC.out 0; have hfz23_1 := blk_frozen KC.out 1; have hfz23_2 := blk_frozen KC.out 2; obtain ⟨Ao24, co24, eo24⟩ := Kd.R_slice HO288.out; subst eo24; have hcz25_0 := ci_ KA 0 (.int .i64 65535); have hcz25_1 := ci_ KA 1 (.int .i64 0); have hcz25_2 := ci_ KA 2 (.int .i64 0); have hcz25_3 := ci_ KA 3 (.int .i64 65535); have hfz25_0 := blk_frozen KA.out 0; have hfz25_1 := blk_frozen KA.out 1; have hfz25_2 := blk_frozen KA.out 2; have hfz25_3 := blk_frozen KA.out 3; have hcz26_0 := ci_ KB 0 (.int .i64 0); have hcz26_1 := ci_ KB 1 (.int .i64 65535); have hcz26_2 := ci_ KB 2 (.int .i64 0); have hcz26_3 := ci_ KB 3 (.int .i64 32768); have hfz26_0 := blk_frozen KB.out 0; have hfz26_1 := blk_frozen KB.out 1; have hfz26_2 := blk_frozen KB.out 2; have hfz26_3 := blk_frozen KB.out 3) | ((with_reducible refine gate_callee (f := 14) rfl ?_); refine goesL_ (some 15) rfl rfl Try.func14 (by kernel_rfl) rfl #[.int .i64 0, .agg #[.int .i64 65535, .int .i64 0, .int .i64 0, .int .i64 65535], .agg #[.int .i64 0, .int .i64 65535, .int .i64 0, .int .i64 32768]] rfl pm ?_; (with_reducible refine (blend_Over.calls k 0 65535 0 0 65535 0 65535 0 32768 t291 t292 t293 t294 _ A2.out).mono ?_); rintro e w27 ⟨rfl, hb⟩; refine ⟨_, rfl, ?_⟩; have c0_ := co_ (g := gA) (o := .cells #[.int .i64 65535, .int .i64 0, .int .i64 0, .int .i64 65535] 32 (0, 0)) hb (by refine pf ?_ NAC.out; refine pl ?_; exact KA.out); have c1_ := co_ (g := gB) (o := .cells #[.int .i64 0, .int .i64 65535, .int .i64 0, .int .i64 32768] 32 (0, 0)) hb (by refine pf ?_ NBC.out; refine pl ?_; exact KB.out); have c2_ := co_ (g := gC) (o := .cells #[.int .i64 t284, .int .i64 t285, .slice Ao24 t286.length co24] 24 (0, 0)) hb (by refine pl ?_; refine blk_put (cs := #[.int .i64 t284, .int .i64 t285, .slice none 0 0]) ?_ 2 _ rfl; refine pl ?_; refine blk_put (cs := #[.int .i64 t284, .int .i64 0, .slice none 0 0]) ?_ 1 _ rfl; refine pl ?_; refine blk_put (cs := #[.int .i64 0, .int .i64 0, .slice none 0 0]) ?_ 0 _ rfl; refine pl ?_; exact KC.out); replace HO288 := Aside0.mk (Kd.R_below (by (with_reducible repeat (first | apply Kd.R_alloc | apply Kd.R_drewN | apply Kd.R_drew)); exact (Kd.R_mono (Kd.R_far (p := ⟨gC, 2, none⟩) (Kd.R_far (p := ⟨gC, 1, none⟩) (Kd.R_far (p := ⟨gC, 0, none⟩) (Kd.R_types HO288.out KC.out (by decide)) (fun _ hk => hk.2) (.int .i64 t284)) (fun _ hk => hk.2) (.int .i64 t285)) (fun _ hk => hk.2) (.slice Ao24 t286.length co24)) (fun _ h_ => h_.1))) hb); replace KA := bb_ c0_ hb; replace KB := bb_ c1_ hb; replace KC := bb_ c2_ hb; replace HB := Aside0.mk (below_step (pb3 HB.out GEA.out GEB.out GEC.out) hb); clear c0_ c1_ c2_; (try clear hb); (try clear hb2); (try clear hk); (try clear hi); have hcz28_0 := ci_ KA 0 (.int .i64 65535); have hcz28_1 := ci_ KA 1 (.int .i64 0); have hcz28_2 := ci_ KA 2 (.int .i64 0); have hcz28_3 := ci_ KA 3 (.int .i64 65535); have hfz28_0 := blk_frozen KA.out 0; have hfz28_1 := blk_frozen KA.out 1; have hfz28_2 := blk_frozen KA.out 2; have hfz28_3 := blk_frozen KA.out 3) | (go_at_call 24; (with_reducible refine (blend_Colors.calls k 17 65535 0 0 65535 0 0 0 0 t295 t296 t297 t298 _ A4.out).mono ?_); rintro e w29 ⟨rfl, hb⟩; replace HO288 := Aside0.mk (Kd.R_below (by (with_reducible repeat (first | apply Kd.R_alloc | apply Kd.R_drewN | apply Kd.R_drew)); exact HO288.out) hb); replace KA := bp_ KA hb; replace KB := bp_ KB hb; replace KC := bp_ KC hb; replace HB := Aside0.mk (below_step (pb3 HB.out GEA.out GEB.out GEC.out) hb); (try clear hb); (try clear hb2); (try clear hk); (try clear hi)) | (go_at_call 22; (with_reducible refine (blend_Channel.calls 9 32768 65535 t299 _ A6.out).mono ?_); rintro e w30 ⟨rfl, hb⟩; replace HO288 := Aside0.mk (Kd.R_below (by (with_reducible repeat (first | apply Kd.R_alloc | apply Kd.R_drewN | apply Kd.R_drew)); exact HO288.out) hb); replace KA := bp_ KA hb; replace KB := bp_ KB hb; replace KC := bp_ KC hb; replace HB := Aside0.mk (below_step (pb3 HB.out GEA.out GEB.out GEC.out) hb); (try clear hb); (try clear hb2); (try clear hk); (try clear hi)) | (go_at_call 22; (with_reducible refine (blend_Channel.calls 7 65535 0 t300 _ A8.out).mono ?_); rintro e w31 ⟨rfl, hb⟩; replace HO288 := Aside0.mk (Kd.R_below (by (with_reducible repeat (first | apply Kd.R_alloc | apply Kd.R_drewN | apply Kd.R_drew)); exact HO288.out) hb); replace KA := bp_ KA hb; replace KB := bp_ KB hb; replace KC := bp_ KC hb; replace HB := Aside0.mk (below_step (pb3 HB.out GEA.out GEB.out GEC.out) hb); (try clear hb); (try clear hb2); (try clear hk); (try clear hi)) | (go_at_call 22; (with_reducible refine (blend_Channel.calls 13 9 5 t301 _ A10.out).mono ?_); rintro e w32 ⟨rfl, hb⟩; replace HO288 := Aside0.mk (Kd.R_below (by (with_reducible repeat (first | apply Kd.R_alloc | apply Kd.R_drewN | apply Kd.R_drew)); exact HO288.out) hb); replace KA := bp_ KA hb; replace KB := bp_ KB hb; replace KC := bp_ KC hb; replace HB := Aside0.mk (below_step (pb3 HB.out GEA.out GEB.out GEC.out) hb); (try clear hb); (try clear hb2); (try clear hk); (try clear hi)) | (go_at_call 20; (with_reducible refine (blend_Name.calls 17 t302 _ A13.out).mono ?_); rintro e w33 ⟨rfl, hb⟩; replace HO288 := Aside0.mk (Kd.R_below (by (with_reducible repeat (first | apply Kd.R_alloc | apply Kd.R_drewN | apply Kd.R_drew)); exact HO288.out) hb); replace KA := bp_ KA hb; replace KB := bp_ KB hb; replace KC := bp_ KC hb; replace HB := Aside0.mk (below_step (pb3 HB.out GEA.out GEB.out GEC.out) hb); (try clear hb); (try clear hb2); (try clear hk); (try clear hi)))
 go_ret
 exact ⟨by first | rfl | (simp [errW_none, errW_some] <;> rfl) | (simp [*, errW_none, errW_some] <;> rfl), pb3 HB.out GEA.out GEB.out GEC.out⟩
/-! ### imageeditorref01_Clamp: function 60 -/
def imageeditorref01_Clamp.f (a0 : Int) (a1 : Int) (a2 : Int) : Option (Int) := some (mn a2 (mx a0 a1))
set_option maxHeartbeats 8000000 in
set_option maxRecDepth 100000 in
theorem imageeditorref01_Clamp.calls (a0 : Int) (a1 : Int) (a2 : Int) (r : Int) (w : World) (h : imageeditorref01_Clamp.f a0 a1 a2 = some r) :
    Calls Try.prog 60 #[.int .i64 a0, .int .i64 a1, .int .i64 a2] w fun e w' => e = .returned (.int .i64 r) ∧ Below w.heap.size w w' := by
 have HB := Aside0.mk (Below.refl w.heap.size w)
 have H : (some (mn a2 (mx a0 a1))) = some r := h
 clear h
 obtain ⟨ji4, hji4⟩ : ∃ j_ : Int, (mx a0 a1) = j_ := ⟨_, rfl⟩
 replace H : (some (mn a2 (ji4))) = some r := by first | (rw [hji4] at H; exact H) | (simp only [hji4] at H ⊢; exact H)
 have hji4_ : (if a0 < a1 then a1 else a0) = ji4 := hji4
 obtain ⟨ji5, hji5⟩ : ∃ j_ : Int, (mn a2 (ji4)) = j_ := ⟨_, rfl⟩
 replace H : (some ji5) = some r := by first | (rw [hji5] at H; exact H) | (simp only [hji5] at H ⊢; exact H)
 have hji5_ : (if (ji4) < a2 then (ji4) else a2) = ji5 := hji5
 obtain rfl := Option.some.inj H
 go_enter Try.func60, Try.ntmps60
 go_wp2
 go_ret
 exact ⟨by first | rfl | (simp [errW_none, errW_some] <;> rfl) | (simp only [← hji4, ← hji5]; first | rfl | (simp [errW_none, errW_some] <;> rfl)) | (simp [*, errW_none, errW_some] <;> rfl), pb HB.out⟩

/-! ### imageeditorref06_U: function 39 -/
def imageeditorref06_U.f (a0 : Int) : Option (Int) := (imageeditorref01_Clamp.f a0 0 65535).bind fun t303 => (some t303)
set_option maxHeartbeats 8000000 in
set_option maxRecDepth 100000 in
theorem imageeditorref06_U.calls (a0 : Int) (r : Int) (w : World) (h : imageeditorref06_U.f a0 = some r) :
    Calls Try.prog 39 #[.int .i64 a0] w fun e w' => e = .returned (.int .i64 r) ∧ Below w.heap.size w w' := by
 have HB := Aside0.mk (Below.refl w.heap.size w)
 have H : ((imageeditorref01_Clamp.f a0 0 65535).bind fun t303 => (some t303)) = some r := h
 clear h
 replace H := Option.bind_eq_some_iff.mp H
 obtain ⟨t303, A20, H⟩ := H
 replace H : (some t303) = some r := H
 have A2 := Aside0.mk A20
 clear A20
 obtain rfl := Option.some.inj H
 go_enter Try.func39, Try.ntmps39
 go_wp2_with (first | ((with_reducible refine gate_callee (f := 60) rfl ?_); refine goesL_ (some 4) rfl rfl Try.func60 (by kernel_rfl) rfl #[.int .i64 a0, .int .i64 0, .int .i64 65535] rfl pm ?_; (with_reducible refine (imageeditorref01_Clamp.calls a0 0 65535 t303 _ A2.out).mono ?_); rintro e w3 ⟨rfl, hb⟩; refine ⟨_, rfl, ?_⟩; replace HB := Aside0.mk (below_step (pb HB.out) hb); (try clear hb); (try clear hb2); (try clear hk); (try clear hi)))
 go_ret
 exact ⟨by first | rfl | (simp [errW_none, errW_some] <;> rfl) | (simp [*, errW_none, errW_some] <;> rfl), pb HB.out⟩

/-! ### imageeditorref06_Limit: function 30 -/
def imageeditorref06_Limit.f (a0_0 : Int) (a0_1 : Int) (a0_2 : Int) (a0_3 : Int) : Option (Int × Int × Int × Int) := (imageeditorref06_U.f a0_0).bind fun t306 => ((imageeditorref06_U.f a0_1).bind fun t307 => ((imageeditorref06_U.f a0_2).bind fun t308 => ((imageeditorref06_U.f a0_3).bind fun t309 => (some (t306, t307, t308, t309)))))
def imageeditorref06_Limit.T1 : Bool × List (List Nat × List Nat) := (true, [([], []), ([0], [0]), ([1], [1]), ([], []), ([3], [3]), ([4, 2], [4]), ([], []), ([6], [6]), ([7, 5], [7]), ([], []), ([9], [9]), ([10, 8], [10]), ([2, 5, 8, 11], [2, 5, 8, 11]), ([12, 11, 0, 1, 2, 3, 4, 5, 6, 7, 8, 9, 10, 11, 12], [12])])
def imageeditorref06_Limit.B1 : List Nat := [0, 1, 3, 0, 8, 31, 0, 64, 255, 0, 512, 2047, 4095, 8191]
theorem imageeditorref06_Limit.tab1 : rtab .any (opsOf Try.f30 1) = imageeditorref06_Limit.T1 := by kernel_rfl
theorem imageeditorref06_Limit.bits1 : waitsOk imageeditorref06_Limit.T1.2 imageeditorref06_Limit.B1 = true := by kernel_rfl
set_option maxHeartbeats 8000000 in
set_option maxRecDepth 100000 in
theorem imageeditorref06_Limit.calls (a0_0 : Int) (a0_1 : Int) (a0_2 : Int) (a0_3 : Int) (r1 : Int) (r2 : Int) (r3 : Int) (r4 : Int) (w : World) (h : imageeditorref06_Limit.f a0_0 a0_1 a0_2 a0_3 = some (r1, r2, r3, r4)) :
    Calls Try.prog 30 #[.agg #[.int .i64 a0_0, .int .i64 a0_1, .int .i64 a0_2, .int .i64 a0_3]] w fun e w' => e = .returned (.agg #[.int .i64 r1, .int .i64 r2, .int .i64 r3, .int .i64 r4]) ∧ Below w.heap.size w w' := by
 have hu32 := Try.underlying32
 have HB := Aside0.mk (Below.refl w.heap.size w)
 have H : ((imageeditorref06_U.f a0_0).bind fun t306 => ((imageeditorref06_U.f a0_1).bind fun t307 => ((imageeditorref06_U.f a0_2).bind fun t308 => ((imageeditorref06_U.f a0_3).bind fun t309 => (some (t306, t307, t308, t309)))))) = some (r1, r2, r3, r4) := h
 clear h
 replace H := Option.bind_eq_some_iff.mp H
 obtain ⟨t306, A20, H⟩ := H
 replace H : ((imageeditorref06_U.f a0_1).bind fun t307 => ((imageeditorref06_U.f a0_2).bind fun t308 => ((imageeditorref06_U.f a0_3).bind fun t309 => (some (t306, t307, t308, t309))))) = some (r1, r2, r3, r4) := H
 have A2 := Aside0.mk A20
 clear A20
 replace H := Option.bind_eq_some_iff.mp H
 obtain ⟨t307, A30, H⟩ := H
 replace H : ((imageeditorref06_U.f a0_2).bind fun t308 => ((imageeditorref06_U.f a0_3).bind fun t309 => (some (t306, t307, t308, t309)))) = some (r1, r2, r3, r4) := H
 have A3 := Aside0.mk A30
 clear A30
 replace H := Option.bind_eq_some_iff.mp H
 obtain ⟨t308, A40, H⟩ := H
 replace H : ((imageeditorref06_U.f a0_3).bind fun t309 => (some (t306, t307, t308, t309))) = some (r1, r2, r3, r4) := H
 have A4 := Aside0.mk A40
 clear A40
 replace H := Option.bind_eq_some_iff.mp H
 obtain ⟨t309, A50, H⟩ := H
 replace H : (some (t306, t307, t308, t309)) = some (r1, r2, r3, r4) := H
 have A5 := Aside0.mk A50
 clear A50
 simp only [Option.some.injEq, Prod.mk.injEq] at H
 obtain ⟨rfl, rfl, rfl, rfl⟩ := H
 go_enter Try.func30, Try.ntmps30
 try go_wp2_with (first | ((with_reducible refine gate_dst (N := 1) rfl ?_); refine box_event ?hg (N := 1) ?hd (cs := #[.int .i64 a0_0, .int .i64 a0_1, .int .i64 a0_2, .int .i64 a0_3]) (t := 32) ?hr ?_; (case hd => rfl); (case hg => rfl); (case hr => first | (go_simp; done) | (go_simp; rfl)); intro gA hg w6 hbox hb; have KA := Aside0.mk hbox; have GWA := ge_ hg (pb HB.out); have GEA := ge_ hg (pb HB.out); replace HB := Aside0.mk (below_step (pb HB.out) hb); clear hb hbox hg) | ((with_reducible refine gate_dst (N := 2) rfl ?_); refine box_event ?hg (N := 2) ?hd (cs := #[.int .i64 0, .int .i64 0, .int .i64 0, .int .i64 0]) (t := 32) ?hr ?_; (case hd => rfl); (case hg => rfl); (case hr => first | (go_simp; done) | (go_simp; rfl)); intro gB hg w7 hbox hb; have c0_ := cp_ hb KA; have KB := Aside0.mk hbox; have GWB := ge_ hg (pb1 HB.out GEA.out); have GEB := ge_ hg (pb1 HB.out GEA.out); have NAB := nl_ hg c0_; have NBA := ng_ hg c0_; replace KA := bb_ c0_ hb; replace HB := Aside0.mk (below_step (pb1 HB.out GEA.out) hb); clear c0_; clear hb hbox hg))
 replace KA := Aside0.mk (blk_drew KA.out)
 replace KB := Aside0.mk (blk_drew KB.out)
 replace HB := Aside0.mk (below_drew1 HB.out)
 refine start_ (n := 14) (S := fun w' => w'.cell? ⟨gA, 0, none⟩ = some (.int .i64 a0_0) ∧ w'.cell? ⟨gA, 1, none⟩ = some (.int .i64 a0_1) ∧ w'.cell? ⟨gA, 2, none⟩ = some (.int .i64 a0_2) ∧ w'.cell? ⟨gA, 3, none⟩ = some (.int .i64 a0_3)) (ds := []) #[false, false, false, false, false, false, false, false, false, false, false, false, false, false] (by kernel_rfl) rfl rfl ⟨(blk_cell KA.out 0).trans rfl, (blk_cell KA.out 1).trans rfl, (blk_cell KA.out 2).trans rfl, (blk_cell KA.out 3).trans rfl⟩ (fun hHeld => ?_); refine with_tabW imageeditorref06_Limit.tab1 imageeditorref06_Limit.bits1 (fun HT_ HW_ => ?_)
 generalize w7.drew = w8 at KA KB HB hHeld ⊢
 refine pure_ (i := 0) (N := some 3) (v := ?_) (a' := ?_) #[true, false, false, false, false, false, false, false, false, false, false, false, false, false] rfl rfl (any_of HT_.out (by kernel_rfl)) (fun _ _ _ h => h) (Or.inl ⟨by rfl, ?_⟩) ?_ ?_
 rotate_left
 ·intro w'
  go_simp
  with_reducible rfl
 rotate_left
 ·refine ps ?_
  rfl
 refine pure_ (i := 3) (N := some 6) (v := ?_) (a' := ?_) #[true, false, false, true, false, false, false, false, false, false, false, false, false, false] rfl rfl (any_of HT_.out (by kernel_rfl)) (fun _ _ _ h => h) (Or.inl ⟨by rfl, ?_⟩) ?_ ?_
 rotate_left
 ·intro w'
  go_simp
  with_reducible rfl
 rotate_left
 ·refine ps ?_
  rfl
 refine pure_ (i := 6) (N := some 9) (v := ?_) (a' := ?_) #[true, false, false, true, false, false, true, false, false, false, false, false, false, false] rfl rfl (any_of HT_.out (by kernel_rfl)) (fun _ _ _ h => h) (Or.inl ⟨by rfl, ?_⟩) ?_ ?_
 rotate_left
 ·intro w'
  go_simp
  with_reducible rfl
 rotate_left
 ·refine ps ?_
  rfl
 refine pure_ (i := 9) (N := some 12) (v := ?_) (a' := ?_) #[true, false, false, true, false, false, true, false, false, true, false, false, false, false] rfl rfl (any_of HT_.out (by kernel_rfl)) (fun _ _ _ h => h) (Or.inl ⟨by rfl, ?_⟩) ?_ ?_
 rotate_left
 ·intro w'
  go_simp
  with_reducible rfl
 rotate_left
 ·refine ps ?_
  rfl
 refine take_ (i := 1) (N := some 4) (v := ?_) (a' := ?_) #[true, true, false, true, false, false, true, false, false, true, false, false, false, false] rfl rfl (take_ofW HT_.out HW_.out (by kernel_rfl)) (fun _ _ _ h => h) (Or.inl ⟨by rfl, ?_⟩) hHeld ?_ ?_
 rotate_left
 ·rintro w' ⟨s0, s1, s2, s3⟩
  go_simp
  with_reducible rfl
 rotate_left
 ·refine ps ?_
  rfl
 refine take_ (i := 4) (N := some 7) (v := ?_) (a' := ?_) #[true, true, false, true, true, false, true, false, false, true, false, false, false, false] rfl rfl (take_ofW HT_.out HW_.out (by kernel_rfl)) (fun _ _ _ h => h) (Or.inl ⟨by rfl, ?_⟩) hHeld ?_ ?_
 rotate_left
 ·rintro w' ⟨s0, s1, s2, s3⟩
  go_simp
  with_reducible rfl
 rotate_left
 ·refine ps ?_
  rfl
 refine take_ (i := 7) (N := some 10) (v := ?_) (a' := ?_) #[true, true, false, true, true, false, true, true, false, true, false, false, false, false] rfl rfl (take_ofW HT_.out HW_.out (by kernel_rfl)) (fun _ _ _ h => h) (Or.inl ⟨by rfl, ?_⟩) hHeld ?_ ?_
 rotate_left
 ·rintro w' ⟨s0, s1, s2, s3⟩
  go_simp
  with_reducible rfl
 rotate_left
 ·refine ps ?_
  rfl
 refine take_ (i := 10) (N := some 13) (v := ?_) (a' := ?_) #[true, true, false, true, true, false, true, true, false, true, true, false, false, false] rfl rfl (take_ofW HT_.out HW_.out (by kernel_rfl)) (fun _ _ _ h => h) (Or.inl ⟨by rfl, ?_⟩) hHeld ?_ ?_
 rotate_left
 ·rintro w' ⟨s0, s1, s2, s3⟩
  go_simp
  with_reducible rfl
 rotate_left
 ·refine ps ?_
  rfl
 refine one_ (i := 2) (N := some 5) #[true, true, true, true, true, false, true, true, false, true, true, false, false, false] rfl rfl (one_of HT_.out (by kernel_rfl)) (by decide) (fun K hK => ?_)
 refine goes_ Try.func39 (by kernel_rfl) rfl #[.int .i64 a0_0] (by rfl) rfl rfl pm ?_
 with_reducible refine (imageeditorref06_U.calls a0_0 t306 _ A2.out).mono ?_
 rintro e w9 ⟨rfl, hb⟩
 refine ⟨_, rfl, ?_⟩
 replace KA := bb_ KA hb
 replace KB := bb_ KB hb
 replace HB := Aside0.mk (below_step HB.out hb)
 try clear hb
 refine hK.out _ _ ⟨(blk_cell KA.out 0).trans rfl, (blk_cell KA.out 1).trans rfl, (blk_cell KA.out 2).trans rfl, (blk_cell KA.out 3).trans rfl⟩ (fun hHeld => ?_)
 clear hK K
 refine norm_ (a' := ?_) ?_ ?_
 rotate_left
 ·show Act.put _ (some 5) _ = _
  refine ps ?_
  rfl
 refine one_ (i := 5) (N := some 8) #[true, true, true, true, true, true, true, true, false, true, true, false, false, false] rfl rfl (one_of HT_.out (by kernel_rfl)) (by decide) (fun K hK => ?_)
 refine goes_ Try.func39 (by kernel_rfl) rfl #[.int .i64 a0_1] (by rfl) rfl rfl pm ?_
 with_reducible refine (imageeditorref06_U.calls a0_1 t307 _ A3.out).mono ?_
 rintro e w10 ⟨rfl, hb⟩
 refine ⟨_, rfl, ?_⟩
 replace KA := bb_ KA hb
 replace KB := bb_ KB hb
 replace HB := Aside0.mk (below_step HB.out hb)
 try clear hb
 refine hK.out _ _ ⟨(blk_cell KA.out 0).trans rfl, (blk_cell KA.out 1).trans rfl, (blk_cell KA.out 2).trans rfl, (blk_cell KA.out 3).trans rfl⟩ (fun hHeld => ?_)
 clear hK K
 refine norm_ (a' := ?_) ?_ ?_
 rotate_left
 ·show Act.put _ (some 8) _ = _
  refine ps ?_
  rfl
 refine one_ (i := 8) (N := some 11) #[true, true, true, true, true, true, true, true, true, true, true, false, false, false] rfl rfl (one_of HT_.out (by kernel_rfl)) (by decide) (fun K hK => ?_)
 refine goes_ Try.func39 (by kernel_rfl) rfl #[.int .i64 a0_2] (by rfl) rfl rfl pm ?_
 with_reducible refine (imageeditorref06_U.calls a0_2 t308 _ A4.out).mono ?_
 rintro e w11 ⟨rfl, hb⟩
 refine ⟨_, rfl, ?_⟩
 replace KA := bb_ KA hb
 replace KB := bb_ KB hb
 replace HB := Aside0.mk (below_step HB.out hb)
 try clear hb
 refine hK.out _ _ ⟨(blk_cell KA.out 0).trans rfl, (blk_cell KA.out 1).trans rfl, (blk_cell KA.out 2).trans rfl, (blk_cell KA.out 3).trans rfl⟩ (fun hHeld => ?_)
 clear hK K
 refine norm_ (a' := ?_) ?_ ?_
 rotate_left
 ·show Act.put _ (some 11) _ = _
  refine ps ?_
  rfl
 refine one_ (i := 11) (N := some 14) #[true, true, true, true, true, true, true, true, true, true, true, true, false, false] rfl rfl (one_of HT_.out (by kernel_rfl)) (by decide) (fun K hK => ?_)
 refine goes_ Try.func39 (by kernel_rfl) rfl #[.int .i64 a0_3] (by rfl) rfl rfl pm ?_
 with_reducible refine (imageeditorref06_U.calls a0_3 t309 _ A5.out).mono ?_
 rintro e w12 ⟨rfl, hb⟩
 refine ⟨_, rfl, ?_⟩
 replace KA := bb_ KA hb
 replace KB := bb_ KB hb
 replace HB := Aside0.mk (below_step HB.out hb)
 try clear hb
 refine hK.out _ _ ⟨(blk_cell KA.out 0).trans rfl, (blk_cell KA.out 1).trans rfl, (blk_cell KA.out 2).trans rfl, (blk_cell KA.out 3).trans rfl⟩ (fun hHeld => ?_)
 clear hK K
 refine norm_ (a' := ?_) ?_ ?_
 rotate_left
 ·show Act.put _ (some 14) _ = _
  refine ps ?_
  rfl
 refine pure_ (i := 12) (N := some 15) (v := ?_) (a' := ?_) #[true, true, true, true, true, true, true, true, true, true, true, true, true, false] rfl rfl (any_of HT_.out (by kernel_rfl)) (fun _ _ _ h => h) (Or.inl ⟨by rfl, ?_⟩) ?_ ?_
 rotate_left
 ·intro w'
  go_simp
  with_reducible rfl
 rotate_left
 ·refine ps ?_
  rfl
 refine one_ (i := 13) (N := none) #[true, true, true, true, true, true, true, true, true, true, true, true, true, true] rfl rfl (one_of HT_.out (by kernel_rfl)) (by decide) (fun K hK => ?_)
 have hs13 := ci_ KB 0 (.int .i64 0)
 have hfs13 := blk_frozen KB.out 0
 have hns13_0 := NAB.out
 have hms13_0 := NBA.out
 have hs14 := ci_ KB 1 (.int .i64 0)
 have hfs14 := blk_frozen KB.out 1
 have hns14_0 := NAB.out
 have hms14_0 := NBA.out
 have hs15 := ci_ KB 2 (.int .i64 0)
 have hfs15 := blk_frozen KB.out 2
 have hns15_0 := NAB.out
 have hms15_0 := NBA.out
 have hs16 := ci_ KB 3 (.int .i64 0)
 have hfs16 := blk_frozen KB.out 3
 have hns16_0 := NAB.out
 have hms16_0 := NBA.out
 refine skip_ (w1 := ?_) (by rfl) rfl ?_ ?_
 rotate_left
 ·go_simp
  rfl
 refine hK.out _ _ ⟨((cell_far (p := ⟨gB, _, none⟩) NAB.out _).trans (((cell_far (p := ⟨gB, _, none⟩) NAB.out _).trans (((cell_far (p := ⟨gB, _, none⟩) NAB.out _).trans (((cell_far (p := ⟨gB, _, none⟩) NAB.out _).trans (hHeld.1)))))))), ((cell_far (p := ⟨gB, _, none⟩) NAB.out _).trans (((cell_far (p := ⟨gB, _, none⟩) NAB.out _).trans (((cell_far (p := ⟨gB, _, none⟩) NAB.out _).trans (((cell_far (p := ⟨gB, _, none⟩) NAB.out _).trans (hHeld.2.1)))))))), ((cell_far (p := ⟨gB, _, none⟩) NAB.out _).trans (((cell_far (p := ⟨gB, _, none⟩) NAB.out _).trans (((cell_far (p := ⟨gB, _, none⟩) NAB.out _).trans (((cell_far (p := ⟨gB, _, none⟩) NAB.out _).trans (hHeld.2.2.1)))))))), ((cell_far (p := ⟨gB, _, none⟩) NAB.out _).trans (((cell_far (p := ⟨gB, _, none⟩) NAB.out _).trans (((cell_far (p := ⟨gB, _, none⟩) NAB.out _).trans (((cell_far (p := ⟨gB, _, none⟩) NAB.out _).trans (hHeld.2.2.2))))))))⟩ (fun hHeld => ?_)
 clear hK K
 refine done_ (done_of HT_.out (by kernel_rfl)) ?_
 try go_wp2
 refine bodyPost_ret (results_cell_row rfl _ _ gB 32 #[.int .i64 t306, .int .i64 t307, .int .i64 t308, .int .i64 t309] (0, 0) _ rfl (by refine pl ?_; refine blk_put (cs := #[.int .i64 t306, .int .i64 t307, .int .i64 t308, .int .i64 0]) ?_ 3 _ rfl; refine pl ?_; refine blk_put (cs := #[.int .i64 t306, .int .i64 t307, .int .i64 0, .int .i64 0]) ?_ 2 _ rfl; refine pl ?_; refine blk_put (cs := #[.int .i64 t306, .int .i64 0, .int .i64 0, .int .i64 0]) ?_ 1 _ rfl; refine pl ?_; refine blk_put (cs := #[.int .i64 0, .int .i64 0, .int .i64 0, .int .i64 0]) ?_ 0 _ rfl; refine pl ?_; exact KB.out) Try.underlying32 rfl (by kernel_rfl)) rfl ?_
 exact ⟨by first | rfl | (simp [errW_none, errW_some] <;> rfl) | (simp [*, errW_none, errW_some] <;> rfl), pb2 HB.out GEA.out GEB.out⟩

/-! ### imageeditorref01_Floor: function 66 -/
def imageeditorref01_Floor.j0 : Nat → Int → Int → Bool → Option (Int)
  | 0, _, _, _ => none
  | k + 1, x0, x1, x14 => if x14 = true then (some 9223372036854775807) else (if x1 = 0 then (none) else (if (Int.tmod x0 x1) = 0 then (some (wrap64 (Int.tdiv x0 x1))) else (if ((decide ((Int.tmod x0 x1) < 0)) != (decide (x1 < 0))) = true then (some (wrap64 ((wrap64 (Int.tdiv x0 x1)) - 1))) else (some (wrap64 (Int.tdiv x0 x1))))))
def imageeditorref01_Floor.f (k : Nat) (a0 : Int) (a1 : Int) : Option (Int) := if a1 = 0 then (some 0) else (if a0 = (-9223372036854775808) then (imageeditorref01_Floor.j0 k a0 a1 (a1 == (-1))) else (imageeditorref01_Floor.j0 k a0 a1 false))
theorem imageeditorref01_Floor.mono_l : ∀ k, (∀ y0 y1 y2, LeO (imageeditorref01_Floor.j0 k y0 y1 y2) (imageeditorref01_Floor.j0 (k + 1) y0 y1 y2))
  | 0 => fun _ _ _ r h => by simp [imageeditorref01_Floor.j0] at h
  | k + 1 => by
    have ih0 := imageeditorref01_Floor.mono_l k
    · intro y0 y1 y2
      unfold imageeditorref01_Floor.j0
      repeat' first
      | (with_reducible exact ih0 _ _ _)
      | (with_reducible exact LeO.refl _)
      | (with_reducible exact LeO.none _)
      | (with_reducible refine LeO.ite ?_ ?_)
      | (with_reducible refine LeO.bind ?_ (fun _ => ?_))
      | exact ih0 _ _ _
      | exact LeO.none _
      | refine LeO.ite ?_ ?_
      | refine LeO.bind ?_ (fun _ => ?_)
theorem imageeditorref01_Floor.mono : ∀ a0 a1 k, LeO (imageeditorref01_Floor.f k a0 a1) (imageeditorref01_Floor.f (k + 1) a0 a1) := by
  intro a0 a1 k
  have ih0 := imageeditorref01_Floor.mono_l k
  unfold imageeditorref01_Floor.f
  repeat' first
      | (with_reducible exact ih0 _ _ _)
      | (with_reducible exact LeO.refl _)
      | (with_reducible exact LeO.none _)
      | (with_reducible refine LeO.ite ?_ ?_)
      | (with_reducible refine LeO.bind ?_ (fun _ => ?_))
      | exact ih0 _ _ _
      | exact LeO.none _
      | refine LeO.ite ?_ ?_
      | refine LeO.bind ?_ (fun _ => ?_)
set_option maxHeartbeats 8000000 in
set_option maxRecDepth 100000 in
theorem imageeditorref01_Floor.calls (k : Nat) (a0 : Int) (a1 : Int) (r : Int) (w : World) (h : imageeditorref01_Floor.f k a0 a1 = some r) :
    Calls Try.prog 66 #[.int .i64 a0, .int .i64 a1] w fun e w' => e = .returned (.int .i64 r) ∧ Drawn0 w w' := by
 have H : (if a1 = 0 then (some 0) else (if a0 = (-9223372036854775808) then (imageeditorref01_Floor.j0 k a0 a1 (a1 == (-1))) else (imageeditorref01_Floor.j0 k a0 a1 false))) = some r := h
 clear h
 by_cases c3 : a1 = 0
 ·rw [if_pos c3] at H
  have c3b0 : (a1 == 0) = true := beq_iff_eq.mpr c3
  have c3b1 : (a1 != 0) = false := bne_eq_false_iff_eq.mpr c3
  clear c3
  obtain rfl := Option.some.inj H
  go_enter Try.func66, Try.ntmps66
  go_wp2
  repeat (go_quiet (fail); try go_wp2)
  go_ret
  exact ⟨by first | rfl | (simp; done) | (simp [*]; done), by repeat (first | exact Drawn0.refl _ | apply Drawn0.step)⟩
 ·rw [if_neg c3] at H
  have c3b0 : (a1 == 0) = false := beq_eq_false_iff_ne.mpr c3
  have c3b1 : (a1 != 0) = true := bne_iff_ne.mpr c3
  have HC4 := Aside0.mk H
  clear H
  go_enter Try.func66, Try.ntmps66
  go_upto_region 3 with (fail)
  repeat (go_quiet (fail); go_upto_region 3 with (fail))
  go_cut [14] (fun v14 wc => ∃ (kq : Nat) (x14_3 : Bool), v14 = .bool x14_3 ∧ Aside0 (imageeditorref01_Floor.j0 kq a0 a1 x14_3 = some r) ∧ Aside0 (kq ≤ k) ∧ Drawn0 w wc)
  case first =>
   have H := HC4.out
   clear HC4
   by_cases c5 : a0 = (-9223372036854775808)
   ·rw [if_pos c5] at H
    have c5b0 : (a0 == (-9223372036854775808)) = true := beq_iff_eq.mpr c5
    have c5b1 : (a0 != (-9223372036854775808)) = false := bne_eq_false_iff_eq.mpr c5
    clear c5
    (first | rw [c5b0] | (simp only [i64_w, i32_w]; rw [c5b0]) | skip)
    have H' := Aside0.mk H
    clear H
    go_wp2
    repeat (go_quiet (fail); try go_wp2)
    go_meet
    case rel => exact ⟨_, ((a1 == (-1))), (by first | rfl | (simp; done) | (simp [*]; done)), H', ⟨by first | omega | exact Nat.le_refl _⟩, by repeat (first | exact Drawn0.refl _ | apply Drawn0.step)⟩
   ·rw [if_neg c5] at H
    have c5b0 : (a0 == (-9223372036854775808)) = false := beq_eq_false_iff_ne.mpr c5
    have c5b1 : (a0 != (-9223372036854775808)) = true := bne_iff_ne.mpr c5
    (first | rw [c5b0] | (simp only [i64_w, i32_w]; rw [c5b0]) | skip)
    have H' := Aside0.mk H
    clear H
    go_wp2
    repeat (go_quiet (fail); try go_wp2)
    go_meet
    case rel => exact ⟨_, (false), (by first | rfl | (simp; done) | (simp [*]; done)), H', ⟨by first | omega | exact Nat.le_refl _⟩, by repeat (first | exact Drawn0.refl _ | apply Drawn0.step)⟩
  case rest =>
   clear HC4
   try clear p2
   try clear c3
   try clear c3b0
   try clear c3b1
   try clear c5
   try clear c5b0
   try clear c5b1
   obtain ⟨kq, x14_3, rfl, HA, HJ3, ⟨mc3, rfl⟩⟩ := hcut
   cases kq with
   | zero => exact absurd HA.out (by simp [imageeditorref01_Floor.j0])
   | succ kj3 =>
    have H := HA.out
    clear HA
    simp only [imageeditorref01_Floor.j0] at H
    by_cases c6 : x14_3 = true
    ·subst c6
     have H1 : (some 9223372036854775807) = some r := by rw [if_pos rfl] at H; exact H
     clear H
     have H := H1
     clear H1
     obtain rfl := Option.some.inj H
     go_wp2
     repeat (go_quiet (fail); try go_wp2)
     go_ret
     exact ⟨by first | rfl | (simp; done) | (simp [*]; done), by repeat (first | exact Drawn0.refl _ | apply Drawn0.step)⟩
    ·replace c6 := Bool.eq_false_iff.mpr c6
     subst c6
     have H1 : (if a1 = 0 then (none) else (if (Int.tmod a0 a1) = 0 then (some (wrap64 (Int.tdiv a0 a1))) else (if ((decide ((Int.tmod a0 a1) < 0)) != (decide (a1 < 0))) = true then (some (wrap64 ((wrap64 (Int.tdiv a0 a1)) - 1))) else (some (wrap64 (Int.tdiv a0 a1)))))) = some r := by rw [if_neg (show ¬ (false = true) by decide)] at H; exact H
     clear H
     have H := H1
     clear H1
     by_cases c7 : a1 = 0
     ·rw [if_pos c7] at H
      exact absurd H (by simp)
     ·rw [if_neg c7] at H
      have c7b0 : (a1 == 0) = false := beq_eq_false_iff_ne.mpr c7
      have c7b1 : (a1 != 0) = true := bne_iff_ne.mpr c7
      by_cases c8 : (Int.tmod a0 a1) = 0
      ·rw [if_pos c8] at H
       have c8b0 : ((Int.tmod a0 a1) == 0) = true := beq_iff_eq.mpr c8
       have c8b1 : ((Int.tmod a0 a1) != 0) = false := bne_eq_false_iff_eq.mpr c8
       clear c8
       obtain rfl := Option.some.inj H
       go_wp2
       repeat (go_quiet (fail); try go_wp2)
       go_ret
       exact ⟨by first | rfl | (simp; done) | (simp [*]; done), by repeat (first | exact Drawn0.refl _ | apply Drawn0.step)⟩
      ·rw [if_neg c8] at H
       have c8b0 : ((Int.tmod a0 a1) == 0) = false := beq_eq_false_iff_ne.mpr c8
       have c8b1 : ((Int.tmod a0 a1) != 0) = true := bne_iff_ne.mpr c8
       by_cases c9 : ((decide ((Int.tmod a0 a1) < 0)) != (decide (a1 < 0))) = true
       ·rw [if_pos c9] at H
        have c9b0 : ((decide ((Int.tmod a0 a1) < 0)) != (decide (a1 < 0))) = true := c9
        (try (have c9b1 : decide ((decide ((Int.tmod a0 a1) < 0)) = (decide (a1 < 0))) = false := by simpa using c9))
        (try (have c9b2 : ((decide ((Int.tmod a0 a1) < 0)) == (decide (a1 < 0))) = false := by simpa using c9))
        (try (have c9b3 : ¬ ((decide ((Int.tmod a0 a1) < 0)) = (decide (a1 < 0))) := by simpa using c9))
        clear c9
        obtain rfl := Option.some.inj H
        go_wp2
        repeat (go_quiet (fail); try go_wp2)
        go_ret
        exact ⟨by first | rfl | (simp; done) | (simp [*]; done), by repeat (first | exact Drawn0.refl _ | apply Drawn0.step)⟩
       ·rw [if_neg c9] at H
        have c9b0 : ((decide ((Int.tmod a0 a1) < 0)) != (decide (a1 < 0))) = false := by simpa using c9
        (try (have c9b1 : decide ((decide ((Int.tmod a0 a1) < 0)) = (decide (a1 < 0))) = true := by simpa using c9))
        (try (have c9b2 : ((decide ((Int.tmod a0 a1) < 0)) == (decide (a1 < 0))) = true := by simpa using c9))
        clear c9
        obtain rfl := Option.some.inj H
        go_wp2
        repeat (go_quiet (fail); try go_wp2)
        go_ret
        exact ⟨by first | rfl | (simp; done) | (simp [*]; done), by repeat (first | exact Drawn0.refl _ | apply Drawn0.step)⟩

/-! ### imageeditorref01_Abs: function 67 -/
def imageeditorref01_Abs.f (a0 : Int) : Option (Int) := if a0 < 0 then (some (IntKind.u64.wrap (-(IntKind.u64.wrap (a0))))) else (some (IntKind.u64.wrap (a0)))
set_option maxHeartbeats 8000000 in
set_option maxRecDepth 100000 in
theorem imageeditorref01_Abs.calls (a0 : Int) (r : Int) (w : World) (h : imageeditorref01_Abs.f a0 = some r) :
    Calls Try.prog 67 #[.int .i64 a0] w fun e w' => e = .returned (.int .u64 r) ∧ Drawn0 w w' := by
 have H : (if a0 < 0 then (some (IntKind.u64.wrap (-(IntKind.u64.wrap (a0))))) else (some (IntKind.u64.wrap (a0)))) = some r := h
 clear h
 by_cases c2 : a0 < 0
 ·rw [if_pos c2] at H
  have c2b0 : decide (a0 < 0) = true := decide_eq_true c2
  clear c2
  obtain rfl := Option.some.inj H
  go_enter Try.func67, Try.ntmps67
  go_wp2
  go_ret
  exact ⟨by first | rfl | (simp; done) | (simp [*]; done), by repeat (first | exact Drawn0.refl _ | apply Drawn0.step)⟩
 ·rw [if_neg c2] at H
  have c2b0 : decide (a0 < 0) = false := decide_eq_false c2
  clear c2
  obtain rfl := Option.some.inj H
  go_enter Try.func67, Try.ntmps67
  go_wp2
  go_ret
  exact ⟨by first | rfl | (simp; done) | (simp [*]; done), by repeat (first | exact Drawn0.refl _ | apply Drawn0.step)⟩

/-! ### imageeditorref01_Div: function 38 -/
def imageeditorref01_Div.j0 : Nat → Int → Int → Int → Bool → Option (Int)
  | 0, _, _, _, _ => none
  | k + 1, x0, x1, x5, x17 => if x17 = true then (some x5) else ((imageeditorref01_Abs.f (wrap64 (x0 - (wrap64 (x1 * x5))))).bind fun t311 => ((imageeditorref01_Abs.f x1).bind fun t312 => (if t311 ≥ (IntKind.u64.wrap (t312 - t311)) then (some (wrap64 (x5 + 1))) else (some x5))))
def imageeditorref01_Div.f (k : Nat) (a0 : Int) (a1 : Int) : Option (Int) := if a1 = 0 then (some 0) else ((imageeditorref01_Floor.f k a0 a1).bind fun t310 => (if a0 = (-9223372036854775808) then (imageeditorref01_Div.j0 k a0 a1 t310 (a1 == (-1))) else (imageeditorref01_Div.j0 k a0 a1 t310 false)))
theorem imageeditorref01_Div.mono_l : ∀ k, (∀ y0 y1 y2 y3, LeO (imageeditorref01_Div.j0 k y0 y1 y2 y3) (imageeditorref01_Div.j0 (k + 1) y0 y1 y2 y3))
  | 0 => fun _ _ _ _ r h => by simp [imageeditorref01_Div.j0] at h
  | k + 1 => by
    have ih0 := imageeditorref01_Div.mono_l k
    · intro y0 y1 y2 y3
      unfold imageeditorref01_Div.j0
      repeat' first
      | (with_reducible exact ih0 _ _ _ _)
      | (with_reducible exact imageeditorref01_Floor.mono _ _ _)
      | (with_reducible exact LeO.refl _)
      | (with_reducible exact LeO.none _)
      | (with_reducible refine LeO.ite ?_ ?_)
      | (with_reducible refine LeO.bind ?_ (fun _ => ?_))
      | exact ih0 _ _ _ _
      | exact imageeditorref01_Floor.mono _ _ _
      | exact LeO.none _
      | refine LeO.ite ?_ ?_
      | refine LeO.bind ?_ (fun _ => ?_)
theorem imageeditorref01_Div.mono : ∀ a0 a1 k, LeO (imageeditorref01_Div.f k a0 a1) (imageeditorref01_Div.f (k + 1) a0 a1) := by
  intro a0 a1 k
  have ih0 := imageeditorref01_Div.mono_l k
  unfold imageeditorref01_Div.f
  repeat' first
      | (with_reducible exact ih0 _ _ _ _)
      | (with_reducible exact imageeditorref01_Floor.mono _ _ _)
      | (with_reducible exact LeO.refl _)
      | (with_reducible exact LeO.none _)
      | (with_reducible refine LeO.ite ?_ ?_)
      | (with_reducible refine LeO.bind ?_ (fun _ => ?_))
      | exact ih0 _ _ _ _
      | exact imageeditorref01_Floor.mono _ _ _
      | exact LeO.none _
      | refine LeO.ite ?_ ?_
      | refine LeO.bind ?_ (fun _ => ?_)
set_option maxHeartbeats 8000000 in
set_option maxRecDepth 100000 in
theorem imageeditorref01_Div.calls (k : Nat) (a0 : Int) (a1 : Int) (r : Int) (w : World) (h : imageeditorref01_Div.f k a0 a1 = some r) :
    Calls Try.prog 38 #[.int .i64 a0, .int .i64 a1] w fun e w' => e = .returned (.int .i64 r) ∧ Drawn0 w w' := by
 have H : (if a1 = 0 then (some 0) else ((imageeditorref01_Floor.f k a0 a1).bind fun t310 => (if a0 = (-9223372036854775808) then (imageeditorref01_Div.j0 k a0 a1 t310 (a1 == (-1))) else (imageeditorref01_Div.j0 k a0 a1 t310 false)))) = some r := h
 clear h
 by_cases c3 : a1 = 0
 ·rw [if_pos c3] at H
  have c3b0 : (a1 == 0) = true := beq_iff_eq.mpr c3
  have c3b1 : (a1 != 0) = false := bne_eq_false_iff_eq.mpr c3
  clear c3
  obtain rfl := Option.some.inj H
  go_enter Try.func38, Try.ntmps38
  go_wp2
  go_ret
  exact ⟨by first | rfl | (simp; done) | (simp [*]; done), by repeat (first | exact Drawn0.refl _ | apply Drawn0.step)⟩
 ·rw [if_neg c3] at H
  have c3b0 : (a1 == 0) = false := beq_eq_false_iff_ne.mpr c3
  have c3b1 : (a1 != 0) = true := bne_iff_ne.mpr c3
  replace H := Option.bind_eq_some_iff.mp H
  obtain ⟨t310, A40, H⟩ := H
  replace H : (if a0 = (-9223372036854775808) then (imageeditorref01_Div.j0 k a0 a1 t310 (a1 == (-1))) else (imageeditorref01_Div.j0 k a0 a1 t310 false)) = some r := H
  have A4 := Aside0.mk A40
  clear A40
  have HC5 := Aside0.mk H
  clear H
  go_enter Try.func38, Try.ntmps38
  go_upto_region 4 with (first | ((with_reducible refine gate_callee (f := 66) rfl ?_); refine goesL_ (some 11) rfl rfl Try.func66 (by kernel_rfl) rfl #[.int .i64 a0, .int .i64 a1] rfl pm ?_; (with_reducible refine (imageeditorref01_Floor.calls k a0 a1 t310 _ A4.out).mono ?_); rintro e w' ⟨rfl, ⟨nd, rfl⟩⟩; refine ⟨_, rfl, ?_⟩))
  (try simp only [Act.put, List.setIfInBounds_toArray, List.set_cons_zero, List.set_cons_succ])
  go_cut [17] (fun v17 wc => ∃ (kq : Nat) (x17_4 : Bool), v17 = .bool x17_4 ∧ Aside0 (imageeditorref01_Div.j0 kq a0 a1 t310 x17_4 = some r) ∧ Aside0 (kq ≤ k) ∧ Drawn0 w wc)
  case first =>
   have H := HC5.out
   clear HC5
   by_cases c6 : a0 = (-9223372036854775808)
   ·rw [if_pos c6] at H
    have c6b0 : (a0 == (-9223372036854775808)) = true := beq_iff_eq.mpr c6
    have c6b1 : (a0 != (-9223372036854775808)) = false := bne_eq_false_iff_eq.mpr c6
    clear c6
    (first | rw [c6b0] | (simp only [i64_w, i32_w]; rw [c6b0]) | skip)
    have H' := Aside0.mk H
    clear H
    go_wp2
    go_meet
    case rel => exact ⟨_, ((a1 == (-1))), (by first | rfl | (simp; done) | (simp [*]; done)), H', ⟨by first | omega | exact Nat.le_refl _⟩, by repeat (first | exact Drawn0.refl _ | apply Drawn0.step)⟩
   ·rw [if_neg c6] at H
    have c6b0 : (a0 == (-9223372036854775808)) = false := beq_eq_false_iff_ne.mpr c6
    have c6b1 : (a0 != (-9223372036854775808)) = true := bne_iff_ne.mpr c6
    (first | rw [c6b0] | (simp only [i64_w, i32_w]; rw [c6b0]) | skip)
    have H' := Aside0.mk H
    clear H
    go_wp2
    go_meet
    case rel => exact ⟨_, (false), (by first | rfl | (simp; done) | (simp [*]; done)), H', ⟨by first | omega | exact Nat.le_refl _⟩, by repeat (first | exact Drawn0.refl _ | apply Drawn0.step)⟩
  case rest =>
   clear HC5
   try clear p2
   try clear c3
   try clear c3b0
   try clear c3b1
   try clear c6
   try clear c6b0
   try clear c6b1
   obtain ⟨kq, x17_4, rfl, HA, HJ4, ⟨mc4, rfl⟩⟩ := hcut
   cases kq with
   | zero => exact absurd HA.out (by simp [imageeditorref01_Div.j0])
   | succ kj4 =>
    have H := HA.out
    clear HA
    simp only [imageeditorref01_Div.j0] at H
    by_cases c7 : x17_4 = true
    ·subst c7
     have H1 : (some t310) = some r := by rw [if_pos rfl] at H; exact H
     clear H
     have H := H1
     clear H1
     obtain rfl := Option.some.inj H
     go_wp2
     go_ret
     exact ⟨by first | rfl | (simp; done) | (simp [*]; done), by repeat (first | exact Drawn0.refl _ | apply Drawn0.step)⟩
    ·replace c7 := Bool.eq_false_iff.mpr c7
     subst c7
     have H1 : ((imageeditorref01_Abs.f (wrap64 (a0 - (wrap64 (a1 * t310))))).bind fun t311 => ((imageeditorref01_Abs.f a1).bind fun t312 => (if t311 ≥ (IntKind.u64.wrap (t312 - t311)) then (some (wrap64 (t310 + 1))) else (some t310)))) = some r := by rw [if_neg (show ¬ (false = true) by decide)] at H; exact H
     clear H
     have H := H1
     clear H1
     replace H := Option.bind_eq_some_iff.mp H
     obtain ⟨t311, A80, H⟩ := H
     replace H : ((imageeditorref01_Abs.f a1).bind fun t312 => (if t311 ≥ (IntKind.u64.wrap (t312 - t311)) then (some (wrap64 (t310 + 1))) else (some t310))) = some r := H
     have A8 := Aside0.mk A80
     clear A80
     replace H := Option.bind_eq_some_iff.mp H
     obtain ⟨t312, A90, H⟩ := H
     replace H : (if t311 ≥ (IntKind.u64.wrap (t312 - t311)) then (some (wrap64 (t310 + 1))) else (some t310)) = some r := H
     have A9 := Aside0.mk A90
     clear A90
     by_cases c10 : t311 ≥ (IntKind.u64.wrap (t312 - t311))
     ·rw [if_pos c10] at H
      have c10b0 : decide ((IntKind.u64.wrap (t312 - t311)) ≤ t311) = true := decide_eq_true c10
      clear c10
      obtain rfl := Option.some.inj H
      go_wp2_with (first | ((with_reducible refine gate_callee (f := 67) rfl ?_); refine goesL_ (some 24) rfl rfl Try.func67 (by kernel_rfl) rfl #[.int .i64 (wrap64 (a0 - (wrap64 (a1 * t310))))] rfl pm ?_; (with_reducible refine (imageeditorref01_Abs.calls (wrap64 (a0 - (wrap64 (a1 * t310)))) t311 _ A8.out).mono ?_); rintro e w' ⟨rfl, ⟨nd, rfl⟩⟩; refine ⟨_, rfl, ?_⟩) | ((with_reducible refine gate_callee (f := 67) rfl ?_); refine goesL_ (some 27) rfl rfl Try.func67 (by kernel_rfl) rfl #[.int .i64 a1] rfl pm ?_; (with_reducible refine (imageeditorref01_Abs.calls a1 t312 _ A9.out).mono ?_); rintro e w' ⟨rfl, ⟨nd, rfl⟩⟩; refine ⟨_, rfl, ?_⟩))
      go_ret
      exact ⟨by first | rfl | (simp; done) | (simp [*]; done), by repeat (first | exact Drawn0.refl _ | apply Drawn0.step)⟩
     ·rw [if_neg c10] at H
      have c10b0 : decide ((IntKind.u64.wrap (t312 - t311)) ≤ t311) = false := decide_eq_false c10
      clear c10
      obtain rfl := Option.some.inj H
      go_wp2_with (first | ((with_reducible refine gate_callee (f := 67) rfl ?_); refine goesL_ (some 24) rfl rfl Try.func67 (by kernel_rfl) rfl #[.int .i64 (wrap64 (a0 - (wrap64 (a1 * t310))))] rfl pm ?_; (with_reducible refine (imageeditorref01_Abs.calls (wrap64 (a0 - (wrap64 (a1 * t310)))) t311 _ A8.out).mono ?_); rintro e w' ⟨rfl, ⟨nd, rfl⟩⟩; refine ⟨_, rfl, ?_⟩) | ((with_reducible refine gate_callee (f := 67) rfl ?_); refine goesL_ (some 27) rfl rfl Try.func67 (by kernel_rfl) rfl #[.int .i64 a1] rfl pm ?_; (with_reducible refine (imageeditorref01_Abs.calls a1 t312 _ A9.out).mono ?_); rintro e w' ⟨rfl, ⟨nd, rfl⟩⟩; refine ⟨_, rfl, ?_⟩))
      go_ret
      exact ⟨by first | rfl | (simp; done) | (simp [*]; done), by repeat (first | exact Drawn0.refl _ | apply Drawn0.step)⟩

end Go.Proofs.Ytnijapaaickifaa.I
