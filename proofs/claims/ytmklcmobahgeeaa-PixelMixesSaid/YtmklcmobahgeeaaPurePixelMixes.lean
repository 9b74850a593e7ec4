/-
  Mix comes to the reference's answer, as numbers. No conditions.
-/
import Derived.Test.YtmklcmobahgeeaaQ14
import Derived.Test.YtmklcmobahgeeaaRef
import Derived.Test.YtmklcmobahgeeaaFun
import Derived.Test.YtmklcmobahgeeaaAwake
namespace Go.Proofs.Ytmklcmobahgeeaa.Pure
open Go.RowKit Go.Proofs.YtmklcmobahgeeaaW.PrintWords Go.Proofs.Ytmklcmobahgeeaa.Q Go.Proofs.Ytmklcmobahgeeaa.Num

theorem rmix_f (k : Nat) (a b c d a' b' c' d' t : Int) : imageeditorref06_Mix.f (k + 1) a b c d a' b' c' d' t = mixed a b c d a' b' c' d' t := by
  have hA := wA_bd d t
  have hB := wB_bd d' t
  have ht := un_bd t
  have eT : wrap64 (65535 - un t) = 65535 - un t := w64 (by omega) (by omega)
  have eA : wrap64 (un d * (65535 - un t)) = wA d t := w64 (n := wA d t) (by omega) (by omega)
  have eB : wrap64 (un d' * un t) = wB d' t := w64 (n := wB d' t) (by omega) (by omega)
  have eS : wrap64 (wA d t + wB d' t) = wA d t + wB d' t := w64 (by omega) (by omega)
  unfold imageeditorref06_Mix.f mixed
  rw [rlimit_f, rlimit_f, rU_f]
  simp only [Option.bind_some, eT, eA, eB, eS]
  rw [rdiv_f k (by omega) (by omega) (by omega) (by omega), Option.bind_some]
  by_cases h : rd2 (wA d t + wB d' t) 65535 = 0
  · rw [if_pos h, if_pos h]
  · rw [if_neg h, if_neg h]
    have hD : 0 < wA d t + wB d' t := by
      rcases Int.lt_or_le 0 (wA d t + wB d' t) with h' | h'
      · exact h'
      · exact absurd (by rw [show wA d t + wB d' t = 0 from by omega]; rfl) h
    have hm : ∀ x y : Int, imageeditorref01_Div.f (k + 1) (wrap64 (wrap64 (un x * wA d t) + wrap64 (un y * wB d' t))) (wA d t + wB d' t) = some (rd2 (un x * wA d t + un y * wB d' t) (wA d t + wB d' t)) := fun x y => by
      obtain ⟨a0, a1⟩ := mul_bd (un_bd x).1 (un_bd x).2 hA.1 hA.2
      obtain ⟨b0, b1⟩ := mul_bd (un_bd y).1 (un_bd y).2 hB.1 hB.2
      rw [w64 (n := un x * wA d t) (by omega) (by omega), w64 (n := un y * wB d' t) (by omega) (by omega), w64 (by omega) (by omega), rdiv_f k hD (by omega) (by omega) (by omega)]
    rw [hm, hm, hm]
    rfl
theorem PixelMixes (a b c d a' b' c' d' t : Int) : ∃ k, imageeditorlaw06_PixelMixes.f k a b c d a' b' c' d' t = some true := by
  refine ⟨29 + 1, ?_⟩
  have s : ∃ x y z u, mixed a b c d a' b' c' d' t = some (x, y, z, u) := by unfold mixed; split <;> exact ⟨_, _, _, _, rfl⟩
  obtain ⟨x, y, z, u, s⟩ := s
  unfold imageeditorlaw06_PixelMixes.f
  rw [mix_f, rmix_f, s, awake_of 0]
  simp
end Go.Proofs.Ytmklcmobahgeeaa.Pure
