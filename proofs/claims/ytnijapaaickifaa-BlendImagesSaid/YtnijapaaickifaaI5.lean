-- Written for this claim by a program of this session (handprint.py) that drives the kit's print. Not trusted: Lean checks it.
import Derived.Test.YtnijapaaickifaaI0
import Derived.Test.YtnijapaaickifaaI2
namespace Go.Proofs.Ytnijapaaickifaa.I
open Go.RowKit Go.Proofs.YtnijapaaickifaaW.PrintWords Go.Proofs.YtnijapaaickifaaW.PrintLast
attribute [local go_sem] max2_int min2_int max_two min_two max_three min_three max_four min_four
set_option linter.unusedVariables false
set_option linter.unusedSimpArgs false

/-! ### blend_of_5: function 77 -/
def blend_of_5.f (x y s : Int) : Option Int := blend_unit.f (wrap64 (x + wrap64 (s * y)))
set_option maxHeartbeats 800000 in
theorem blend_of_5.calls (x y s r : Int) {bs : Nat} (w : World) (hs : w.heap[bs]? = some (.cells #[.int .i64 s] 3 (0, 0))) (h : blend_of_5.f x y s = some r) :
    Calls Try.prog 77 #[.int .i64 x, .int .i64 y, .pointer (some ⟨bs, 0, none⟩)] w fun e w' => e = .returned (.int .i64 r) ∧ Below w.heap.size w w' := by
  have hs' : w.cell? ⟨bs, 0, none⟩ = some (.int .i64 s) := (blk_cell hs 0).trans rfl
  have H := Aside0.mk h
  clear hs h
  go_enter Try.func77, Try.ntmps77
  go_wp2_with fail
  refine (blend_unit.calls _ r _ H.out).mono ?_
  rintro e w' ⟨rfl, hb⟩
  go_wp2
  go_ret
  exact ⟨rfl, hb⟩

end Go.Proofs.Ytnijapaaickifaa.I
