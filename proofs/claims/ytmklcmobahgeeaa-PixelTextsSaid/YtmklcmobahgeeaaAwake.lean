/-
  The chapter's examples hold: the law's own calls of the program at fixed inputs come to true. No conditions.
-/
import Derived.Test.YtmklcmobahgeeaaQ11
namespace Go.Proofs.Ytmklcmobahgeeaa.Pure
open Go.Proofs.Ytmklcmobahgeeaa.Q
set_option maxRecDepth 100000 in
theorem awake_true : imageeditorlaw06_awake.f 30 = some true := by decide +kernel
theorem awake_of (k : Nat) : imageeditorlaw06_awake.f (k + 30) = some true := by
  induction k with
  | zero => exact awake_true
  | succ k ih => exact imageeditorlaw06_awake.mono _ _ ih
end Go.Proofs.Ytmklcmobahgeeaa.Pure
