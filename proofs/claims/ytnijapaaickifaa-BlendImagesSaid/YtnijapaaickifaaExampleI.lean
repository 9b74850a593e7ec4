/-
  The chapter's examples hold: the law's own calls of the program at fixed inputs come to true. No conditions.
-/
import Derived.Test.YtnijapaaickifaaI16
namespace Go.Proofs.Ytnijapaaickifaa.Pure
open Go.Proofs.Ytnijapaaickifaa.I
set_option maxRecDepth 100000 in
theorem example_true : imageeditorlaw10_example.f 30 = some true := by decide +kernel
theorem example_of (k : Nat) : imageeditorlaw10_example.f (k + 30) = some true := by
  induction k with
  | zero => exact example_true
  | succ k ih => exact imageeditorlaw10_example.mono _ _ ih
end Go.Proofs.Ytnijapaaickifaa.Pure
