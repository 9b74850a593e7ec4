-- Written for this claim by a program of this session (handprint.py) that drives the kit's print. Not trusted: Lean checks it.
import Derived.Test.YtnijapaaickifaaI0
import Derived.Test.YtnijapaaickifaaI2
namespace Go.Proofs.Ytnijapaaickifaa.I
open Go.RowKit Go.Proofs.YtnijapaaickifaaW.PrintWords Go.Proofs.YtnijapaaickifaaW.PrintLast
attribute [local go_sem] max2_int min2_int max_two min_two max_three min_three max_four min_four
set_option linter.unusedVariables false
set_option linter.unusedSimpArgs false

/-! ### blend_Over_1: function 36 -/
def blend_Over_1.f (x y z s0 s1 s2 s3 b0 b1 b2 b3 d : Int) : Option Int := num_Div.f 9 (wrap64 (wrap64 (wrap64 (wrap64 (y * s3) * wrap64 (65535 - b3)) + wrap64 (wrap64 (x * b3) * wrap64 (65535 - s3))) + wrap64 (wrap64 (z * s3) * b3))) d
set_option maxHeartbeats 800000 in
theorem blend_Over_1.calls (x y z s0 s1 s2 s3 b0 b1 b2 b3 d r : Int) {gs gb gd : Nat} (w : World) (hs : w.heap[gs]? = some (.cells #[.int .i64 s0, .int .i64 s1, .int .i64 s2, .int .i64 s3] 32 (0, 0))) (hb : w.heap[gb]? = some (.cells #[.int .i64 b0, .int .i64 b1, .int .i64 b2, .int .i64 b3] 32 (0, 0))) (hd : w.heap[gd]? = some (.cells #[.int .i64 d] 3 (0, 0))) (h : blend_Over_1.f x y z s0 s1 s2 s3 b0 b1 b2 b3 d = some r) :
    Calls Try.prog 36 #[.int .i64 x, .int .i64 y, .int .i64 z, .pointer (some ⟨gs, 0, none⟩), .pointer (some ⟨gb, 0, none⟩), .pointer (some ⟨gd, 0, none⟩)] w fun e w' => e = .returned (.int .i64 r) ∧ Below w.heap.size w w' := by
  have hs' : w.cell? ⟨gs, 3, none⟩ = some (.int .i64 s3) := (blk_cell hs 3).trans rfl
  have hb' : w.cell? ⟨gb, 3, none⟩ = some (.int .i64 b3) := (blk_cell hb 3).trans rfl
  have hd' : w.cell? ⟨gd, 0, none⟩ = some (.int .i64 d) := (blk_cell hd 0).trans rfl
  have H := Aside0.mk h
  clear hs hb hd h
  go_enter Try.func36, Try.ntmps36
  go_wp2_with fail
  refine (num_Div.calls 9 _ _ r _ H.out).mono ?_
  rintro e w' ⟨rfl, hb⟩
  go_wp2
  go_ret
  exact ⟨rfl, hb⟩

end Go.Proofs.Ytnijapaaickifaa.I
