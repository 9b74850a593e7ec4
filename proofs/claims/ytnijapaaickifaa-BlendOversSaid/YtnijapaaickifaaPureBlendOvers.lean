/-
  The blended pixels come to the reference's answer for every mode. No conditions.
-/
import Derived.Test.YtnijapaaickifaaQ26
import Derived.Test.YtnijapaaickifaaRov
import Derived.Test.YtnijapaaickifaaExample
namespace Go.Proofs.Ytnijapaaickifaa.Pure
open Go.RowKit Go.Proofs.YtnijapaaickifaaW.PrintWords Go.Proofs.YtnijapaaickifaaW.PrintLast Go.Proofs.Ytnijapaaickifaa.Q Go.Proofs.Ytnijapaaickifaa.Num

theorem BlendOvers (m a b c d a' b' c' d' : Int) : ∃ k, imageeditorlaw10_BlendOvers.f k m a b c d a' b' c' d' = some true := by
  refine ⟨0 + 30, ?_⟩
  unfold imageeditorlaw10_BlendOvers.f
  rw [over_f 27, rover_f 26, example_of 0]
  simp
end Go.Proofs.Ytnijapaaickifaa.Pure
