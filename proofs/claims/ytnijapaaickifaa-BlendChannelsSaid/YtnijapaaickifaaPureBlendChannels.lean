/-
  Channel comes to the reference's answer for every mode. No conditions.
-/
import Derived.Test.YtnijapaaickifaaQ21
import Derived.Test.YtnijapaaickifaaChan
import Derived.Test.YtnijapaaickifaaExample
namespace Go.Proofs.Ytnijapaaickifaa.Pure
open Go.RowKit Go.Proofs.YtnijapaaickifaaW.PrintWords Go.Proofs.YtnijapaaickifaaW.PrintLast Go.Proofs.Ytnijapaaickifaa.Q Go.Proofs.Ytnijapaaickifaa.Num

theorem bunit_f (x : Int) : blend_unit.f x = some (un x) := rfl
theorem channel_f (m a b : Int) : blend_Channel.f m a b = some (ch m (un a) (un b)) := by
  unfold blend_Channel.f
  rw [bunit_f, bunit_f, Option.bind_some, Option.bind_some, chan_f (un_bd a) (un_bd b)]
  rfl
theorem BlendChannels (m a b : Int) : ∃ k, imageeditorlaw10_BlendChannels.f k m a b = some true := by
  refine ⟨0 + 30, ?_⟩
  unfold imageeditorlaw10_BlendChannels.f
  rw [channel_f, rchannel_f 29, example_of 0]
  simp
end Go.Proofs.Ytnijapaaickifaa.Pure
