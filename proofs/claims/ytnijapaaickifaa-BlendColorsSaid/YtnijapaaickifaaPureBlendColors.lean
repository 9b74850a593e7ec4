/-
  The blended pixels come to the reference's answer for every mode. No conditions.
-/
import Derived.Test.YtnijapaaickifaaQ24
import Derived.Test.YtnijapaaickifaaCol
import Derived.Test.YtnijapaaickifaaExample
namespace Go.Proofs.Ytnijapaaickifaa.Pure
open Go.RowKit Go.Proofs.YtnijapaaickifaaW.PrintWords Go.Proofs.YtnijapaaickifaaW.PrintLast Go.Proofs.Ytnijapaaickifaa.Q Go.Proofs.Ytnijapaaickifaa.Num

theorem BlendColors (m a b c d a' b' c' d' : Int) : ∃ k, imageeditorlaw10_BlendColors.f k m a b c d a' b' c' d' = some true := by
  refine ⟨0 + 30, ?_⟩
  unfold imageeditorlaw10_BlendColors.f
  rw [colors_f 27, rcolors_f 27, example_of 0]
  simp
end Go.Proofs.Ytnijapaaickifaa.Pure
