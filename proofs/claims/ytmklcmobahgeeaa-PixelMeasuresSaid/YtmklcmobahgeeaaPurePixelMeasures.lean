/-
  Luma, Dist, From8 and To8 come to the reference's answers, as numbers. No conditions.
-/
import Derived.Test.YtmklcmobahgeeaaQ17
import Derived.Test.YtmklcmobahgeeaaRef
import Derived.Test.YtmklcmobahgeeaaFun
import Derived.Test.YtmklcmobahgeeaaAwake
namespace Go.Proofs.Ytmklcmobahgeeaa.Pure
open Go.RowKit Go.Proofs.YtmklcmobahgeeaaW.PrintWords Go.Proofs.Ytmklcmobahgeeaa.Q Go.Proofs.Ytmklcmobahgeeaa.Num

theorem rluma_f (k : Nat) (a b c d : Int) : imageeditorref06_Luma.f (k + 1) a b c d = some (rd2 (13933 * un a + 46871 * un b + 4731 * un c) 65535) := by
  have ha := un_bd a
  have hb := un_bd b
  have hc := un_bd c
  unfold imageeditorref06_Luma.f
  rw [rlimit_f]
  simp only [Option.bind_some]
  rw [w64 (n := 13933 * un a) (by omega) (by omega), w64 (n := 46871 * un b) (by omega) (by omega), w64 (n := 4731 * un c) (by omega) (by omega), w64 (n := 13933 * un a + 46871 * un b) (by omega) (by omega), w64 (by omega) (by omega), rdiv_f k (by omega) (by omega) (by omega) (by omega), Option.bind_some]
theorem rgap_f (x y : Int) : imageeditorref06_gap.f (un x) (un y) = some (gap x y) := by
  have := un_bd x
  have := un_bd y
  unfold imageeditorref06_gap.f gap mx
  rw [w64 (by omega) (by omega), w64 (by omega) (by omega)]
  by_cases h : un x > un y
  · rw [if_pos h, if_neg (by omega)]
  · rw [if_neg h]
    by_cases h' : un x = un y
    · rw [if_neg (by omega)]; congr 1; omega
    · rw [if_pos (by omega)]
theorem dist_step (k : Nat) (l : List Int) (n i : Int) (h0 : 0 ≤ i) (h : i < 4) (hl : l.length = 4) : imageeditorref06_Dist.l0 (k + 1) l n 4 i = imageeditorref06_Dist.l0 k l (mx n (rd l i)) 4 (i + 1) := by
  simp only [imageeditorref06_Dist.l0]
  rw [if_pos h, if_pos h0, if_pos (by rw [hl]; exact h), w64 (by omega) (by omega)]
  unfold mx
  by_cases c : rd l i > n
  · rw [if_pos c, if_pos c]
  · rw [if_neg c, if_neg c]
theorem dist_end (k : Nat) (l : List Int) (n : Int) : imageeditorref06_Dist.l0 (k + 1) l n 4 4 = some n := by
  simp only [imageeditorref06_Dist.l0]
  rw [if_neg (by omega)]
theorem rdist_f (k : Nat) (a b c d a' b' c' d' : Int) : imageeditorref06_Dist.f (k + 5) a b c d a' b' c' d' = some (dist a b c d a' b' c' d') := by
  have g1 := gap_bd a a'
  unfold imageeditorref06_Dist.f dist
  rw [rlimit_f, rlimit_f]
  simp only [Option.bind_some, rgap_f]
  change imageeditorref06_Dist.l0 (k + 5) [gap a a', gap b b', gap c c', gap d d'] 0 4 0 = _
  rw [dist_step _ _ _ _ (by omega) (by omega) rfl, dist_step _ _ _ _ (by omega) (by omega) rfl, dist_step _ _ _ _ (by omega) (by omega) rfl, dist_step _ _ _ _ (by omega) (by omega) rfl]
  change imageeditorref06_Dist.l0 (k + 1) _ (mx (mx (mx (mx 0 (gap a a')) (gap b b')) (gap c c')) (gap d d')) 4 4 = _
  rw [dist_end, show mx 0 (gap a a') = gap a a' from by unfold mx; split <;> omega]
theorem rfrom8_f (v : Int) : imageeditorref06_From8.f v = some (257 * u8 v) := by
  have := u8_bd v
  have e : imageeditorref01_Clamp.f v 0 255 = some (u8 v) := rfl
  unfold imageeditorref06_From8.f
  rw [e, Option.bind_some, w64 (by omega) (by omega)]
theorem rto8_f (k : Nat) (v : Int) : imageeditorref06_To8.f (k + 1) v = some (rd2 (un v) 257) := by
  have := un_bd v
  unfold imageeditorref06_To8.f
  rw [rU_f, Option.bind_some, rdiv_f k (by omega) (by omega) (by omega) (by omega), Option.bind_some]
theorem PixelMeasures (a b c d a' b' c' d' v : Int) : ∃ k, imageeditorlaw06_PixelMeasures.f k a b c d a' b' c' d' v = some true := by
  refine ⟨0 + 30, ?_⟩
  unfold imageeditorlaw06_PixelMeasures.f
  rw [luma_f 29, rluma_f 29, dist_f, rdist_f 25, from8_f, rfrom8_f, to8_f 29, rto8_f 29, awake_of 0]
  simp
end Go.Proofs.Ytmklcmobahgeeaa.Pure
