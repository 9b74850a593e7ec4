-- Written for this claim by a program of this session (handprint.py) that drives the kit's print. Not trusted: Lean checks it.
import Derived.Test.YtnijapaaickifaaI0
namespace Go.Proofs.Ytnijapaaickifaa.I
open Go.RowKit Go.Proofs.YtnijapaaickifaaW.PrintWords Go.Proofs.YtnijapaaickifaaW.PrintLast
attribute [local go_sem] max2_int min2_int max_two min_two max_three min_three max_four min_four
set_option linter.unusedVariables false
set_option linter.unusedSimpArgs false

/-! ### blend_of_2: function 74 -/
def blend_of_2.f (x y m : Int) : Option Int := some (if ((m == 4) == decide (x < y)) = true then x else y)
set_option maxHeartbeats 800000 in
theorem blend_of_2.calls (x y m r : Int) {bm : Nat} (w : World) (hm : w.heap[bm]? = some (.cells #[.int .i64 m] 3 (0, 0))) (h : blend_of_2.f x y m = some r) :
    Calls Try.prog 74 #[.int .i64 x, .int .i64 y, .pointer (some ⟨bm, 0, none⟩)] w fun e w' => e = .returned (.int .i64 r) ∧ Below w.heap.size w w' := by
  have hm' : w.cell? ⟨bm, 0, none⟩ = some (.int .i64 m) := (blk_cell hm 0).trans rfl
  have H := Aside0.mk h
  clear hm h
  by_cases c1 : m = 4
  · have e1 : (m == 4) = true := beq_iff_eq.mpr c1
    by_cases c2 : x < y
    · obtain rfl : x = r := by simpa [blend_of_2.f, e1, c2] using H.out
      go_enter Try.func74, Try.ntmps74
      go_wp2_with fail
      all_goals first | (exfalso; simp_all; done) | (go_ret; exact ⟨rfl, by first | exact Below.refl _ _ | exact pw_below_drewN (Below.refl _ _) _⟩)
    · obtain rfl : y = r := by simpa [blend_of_2.f, e1, c2] using H.out
      go_enter Try.func74, Try.ntmps74
      go_wp2_with fail
      all_goals first | (exfalso; simp_all; done) | (go_ret; exact ⟨rfl, by first | exact Below.refl _ _ | exact pw_below_drewN (Below.refl _ _) _⟩)
  · have e1 : (m == 4) = false := beq_eq_false_iff_ne.mpr c1
    by_cases c2 : x < y
    · obtain rfl : y = r := by simpa [blend_of_2.f, e1, c2] using H.out
      go_enter Try.func74, Try.ntmps74
      go_wp2_with fail
      all_goals first | (exfalso; simp_all; done) | (go_ret; exact ⟨rfl, by first | exact Below.refl _ _ | exact pw_below_drewN (Below.refl _ _) _⟩)
    · obtain rfl : x = r := by simpa [blend_of_2.f, e1, c2] using H.out
      go_enter Try.func74, Try.ntmps74
      go_wp2_with fail
      all_goals first | (exfalso; simp_all; done) | (go_ret; exact ⟨rfl, by first | exact Below.refl _ _ | exact pw_below_drewN (Below.refl _ _) _⟩)

end Go.Proofs.Ytnijapaaickifaa.I
