/-
  The symmetrical modes answer alike with the two values exchanged, overlay is hard light exchanged, the product lies below both and the screen above. No conditions.
-/
import Derived.Test.YtnijapaaickifaaQ33
import Derived.Test.YtnijapaaickifaaChan
import Derived.Test.YtnijapaaickifaaExample
namespace Go.Proofs.Ytnijapaaickifaa.Pure
open Go.RowKit Go.Proofs.YtnijapaaickifaaW.PrintWords Go.Proofs.YtnijapaaickifaaW.PrintLast Go.Proofs.Ytnijapaaickifaa.Q Go.Proofs.Ytnijapaaickifaa.Num

theorem channel_is (m a b : Int) : blend_Channel.f m a b = some (ch m (un a) (un b)) := by
  have e : ∀ x, blend_unit.f x = some (un x) := fun _ => rfl
  unfold blend_Channel.f
  rw [e, e, Option.bind_some, Option.bind_some, chan_f (un_bd a) (un_bd b)]
  rfl
theorem mn_comm (x y : Int) : mn x y = mn y x := by unfold mn; split <;> split <;> omega
theorem mx_comm (x y : Int) : mx x y = mx y x := by unfold mx; split <;> split <;> omega
theorem turn1 (x y : Int) : ch 1 x y = ch 1 y x := by simp [ch, Int.mul_comm x y]
theorem turn2 (x y : Int) : ch 2 x y = ch 2 y x := by simp [ch, Int.mul_comm x y, Int.add_comm x y]
theorem turn4 (x y : Int) : ch 4 x y = ch 4 y x := by simp [ch, mn_comm x y]
theorem turn5 (x y : Int) : ch 5 x y = ch 5 y x := by simp [ch, mx_comm x y]
theorem turn10 (x y : Int) : ch 10 x y = ch 10 y x := by simp [ch, mn_comm x y, mx_comm x y]
theorem turn11 (x y : Int) : ch 11 x y = ch 11 y x := by simp [ch, Int.mul_assoc, Int.mul_comm x y, Int.add_comm x y]
theorem turn12 (x y : Int) : ch 12 x y = ch 12 y x := by simp [ch, Int.add_comm x y]
theorem turn38 (x y : Int) : ch 3 x y = ch 8 y x := by simp [ch]
theorem step (k : Nat) (a b i m : Int) (h0 : 0 ≤ i) (h : i < 7) (hm : rd [1, 2, 4, 5, 10, 11, 12] i = m) (hs : ch m (un a) (un b) = ch m (un b) (un a)) : imageeditorlaw10_BlendTurns.l0 (k + 1) a b [1, 2, 4, 5, 10, 11, 12] i = imageeditorlaw10_BlendTurns.l0 k a b [1, 2, 4, 5, 10, 11, 12] (i + 1) := by
  conv => lhs; unfold imageeditorlaw10_BlendTurns.l0
  rw [if_pos (by simpa using h), if_pos h0, hm, channel_is, channel_is, Option.bind_some, Option.bind_some, if_pos hs, w64 (by omega) (by omega)]
theorem BlendTurns (a b : Int) : ∃ k, imageeditorlaw10_BlendTurns.f k a b = some true := by
  have ha := un_bd a
  have hb := un_bd b
  have hp := mul_le ha hb
  refine ⟨0 + 30 + 1 + 1 + 1 + 1 + 1 + 1 + 1 + 1, ?_⟩
  unfold imageeditorlaw10_BlendTurns.f
  rw [step _ a b 0 1 (by omega) (by omega) rfl (turn1 _ _), show (0 : Int) + 1 = 1 from rfl, step _ a b 1 2 (by omega) (by omega) rfl (turn2 _ _), show (1 : Int) + 1 = 2 from rfl,
    step _ a b 2 4 (by omega) (by omega) rfl (turn4 _ _), show (2 : Int) + 1 = 3 from rfl, step _ a b 3 5 (by omega) (by omega) rfl (turn5 _ _), show (3 : Int) + 1 = 4 from rfl,
    step _ a b 4 10 (by omega) (by omega) rfl (turn10 _ _), show (4 : Int) + 1 = 5 from rfl, step _ a b 5 11 (by omega) (by omega) rfl (turn11 _ _), show (5 : Int) + 1 = 6 from rfl,
    step _ a b 6 12 (by omega) (by omega) rfl (turn12 _ _), show (6 : Int) + 1 = 7 from rfl]
  simp only [imageeditorlaw10_BlendTurns.l0]
  rw [if_neg (by decide), rUnit_f, rUnit_f, channel_is, channel_is, channel_is, channel_is, example_of 0]
  simp only [Option.bind_some]
  rw [if_pos (turn38 _ _), if_pos, if_pos]
  · rw [show ch 2 (un a) (un b) = un a + un b - rd2 (un a * un b) 65535 from by simp [ch]]
    unfold mx; split <;> omega
  · rw [show ch 1 (un a) (un b) = rd2 (un a * un b) 65535 from by simp [ch]]
    unfold mn; split <;> omega
end Go.Proofs.Ytnijapaaickifaa.Pure
