/-
  What the program's pixel functions come to, as numbers. Plain facts, no conditions beside those written.
-/
import Derived.Test.YtmklcmobahgeeaaQ4
import Derived.Test.YtmklcmobahgeeaaQ6
import Derived.Test.YtmklcmobahgeeaaQ7
import Derived.Test.YtmklcmobahgeeaaQ8
import Derived.Test.YtmklcmobahgeeaaNum
namespace Go.Proofs.Ytmklcmobahgeeaa.Pure
open Go.RowKit Go.Proofs.YtmklcmobahgeeaaW.PrintWords Go.Proofs.Ytmklcmobahgeeaa.Q Go.Proofs.Ytmklcmobahgeeaa.Num

theorem valid_f (a b c d : Int) : pixel_Valid.f a b c d = some (a == un a && (b == un b && (c == un c && d == un d))) := by
  unfold pixel_Valid.f; rw [limit_f]; rfl
theorem pre_f (a b c d : Int) : pixel_Pre.f a b c d = some (rd2 (un a * un d) 65535, rd2 (un b * un d) 65535, rd2 (un c * un d) 65535, un d) := by
  unfold pixel_Pre.f
  rw [limit_f]
  simp only [Option.bind_some, mul_f, un_un]
theorem straight_f (a b c d : Int) : pixel_Straight.f a b c d = if un d = 0 then some (0, 0, 0, 0) else some (qu (un a) (un d), qu (un b) (un d), qu (un c) (un d), un d) := by
  unfold pixel_Straight.f
  rw [limit_f]
  simp only [Option.bind_some, quo_f]
theorem fade_f (a b c d t : Int) : pixel_Fade.f a b c d t = if rd2 (un d * un t) 65535 = 0 then some (0, 0, 0, 0) else some (un a, un b, un c, rd2 (un d * un t) 65535) := by
  unfold pixel_Fade.f
  rw [limit_f]
  simp only [Option.bind_some, mul_f, un_un]

/-! ### Mix -/
/-- The weights of the two pixels, and the mixed pixel. -/
def wA (d t : Int) : Int := un d * (65535 - un t)
def wB (e t : Int) : Int := un e * un t
theorem wA_bd (d t : Int) : 0 ≤ wA d t ∧ wA d t ≤ 4294836225 := by
  have := un_bd t
  exact mul_bd (un_bd d).1 (un_bd d).2 (by omega) (by omega : 65535 - un t ≤ 65535)
theorem wB_bd (e t : Int) : 0 ≤ wB e t ∧ wB e t ≤ 4294836225 := mul_bd (un_bd e).1 (un_bd e).2 (un_bd t).1 (un_bd t).2
def mixed (a b c d a' b' c' d' t : Int) : Option (Int × Int × Int × Int) :=
  if rd2 (wA d t + wB d' t) 65535 = 0 then some (0, 0, 0, 0) else
    some (rd2 (un a * wA d t + un a' * wB d' t) (wA d t + wB d' t), rd2 (un b * wA d t + un b' * wB d' t) (wA d t + wB d' t), rd2 (un c * wA d t + un c' * wB d' t) (wA d t + wB d' t), rd2 (wA d t + wB d' t) 65535)
theorem mix1_f {p q : Int} (x y : Int) (hp : 0 ≤ p ∧ p ≤ 4294836225) (hq : 0 ≤ q ∧ q ≤ 4294836225) (h : 0 < p + q) : pixel_Mix_1.f (un x) (un y) p q (p + q) = some (rd2 (un x * p + un y * q) (p + q)) := by
  obtain ⟨a0, a1⟩ := mul_bd (un_bd x).1 (un_bd x).2 hp.1 hp.2
  obtain ⟨b0, b1⟩ := mul_bd (un_bd y).1 (un_bd y).2 hq.1 hq.2
  unfold pixel_Mix_1.f
  rw [w64 (n := un x * p) (by omega) (by omega), w64 (n := un y * q) (by omega) (by omega), w64 (by omega) (by omega), div_f 8 h (by omega) (by omega) (by omega)]
theorem mix_f (k : Nat) (a b c d a' b' c' d' t : Int) : pixel_Mix.f (k + 1) a b c d a' b' c' d' t = mixed a b c d a' b' c' d' t := by
  have hA := wA_bd d t
  have hB := wB_bd d' t
  have ht := un_bd t
  have eT : wrap64 (65535 - un t) = 65535 - un t := w64 (by omega) (by omega)
  have eA : wrap64 (un d * (65535 - un t)) = wA d t := w64 (n := wA d t) (by omega) (by omega)
  have eB : wrap64 (un d' * un t) = wB d' t := w64 (n := wB d' t) (by omega) (by omega)
  have eS : wrap64 (wA d t + wB d' t) = wA d t + wB d' t := w64 (by omega) (by omega)
  unfold pixel_Mix.f mixed
  rw [limit_f, limit_f, unit_f]
  simp only [Option.bind_some, eT, eA, eB, eS]
  rw [div_f k (by omega) (by omega) (by omega) (by omega), Option.bind_some]
  by_cases h : rd2 (wA d t + wB d' t) 65535 = 0
  · rw [if_pos h, if_pos h]
  · rw [if_neg h, if_neg h]
    have hD : 0 < wA d t + wB d' t := by
      rcases Int.lt_or_le 0 (wA d t + wB d' t) with h' | h'
      · exact h'
      · exact absurd (by rw [show wA d t + wB d' t = 0 from by omega]; rfl) h
    rw [mix1_f a a' hA hB hD, mix1_f b b' hA hB hD, mix1_f c c' hA hB hD]
    rfl

/-! ### Luma, Dist, From8, To8 -/
theorem luma_f (k : Nat) (a b c d : Int) : pixel_Luma.f (k + 1) a b c d = some (rd2 (13933 * un a + 46871 * un b + 4731 * un c) 65535) := by
  have ha := un_bd a
  have hb := un_bd b
  have hc := un_bd c
  unfold pixel_Luma.f
  rw [limit_f]
  simp only [Option.bind_some]
  rw [w64 (n := 13933 * un a) (by omega) (by omega), w64 (n := 46871 * un b) (by omega) (by omega), w64 (n := 4731 * un c) (by omega) (by omega), w64 (n := 13933 * un a + 46871 * un b) (by omega) (by omega), w64 (by omega) (by omega), div_f k (by omega) (by omega) (by omega) (by omega), Option.bind_some]
/-- How far two values are apart. -/
def gap (x y : Int) : Int := mx (un x - un y) (un y - un x)
theorem gap_bd (x y : Int) : 0 ≤ gap x y ∧ gap x y ≤ 65535 := by
  have := un_bd x
  have := un_bd y
  unfold gap mx; split <;> omega
theorem apart_f (x y : Int) : pixel_Dist_1.f (un x) (un y) = some (gap x y) := by
  have := un_bd x
  have := un_bd y
  unfold pixel_Dist_1.f gap
  rw [w64 (by omega) (by omega), w64 (by omega) (by omega)]
def dist (a b c d a' b' c' d' : Int) : Int := mx (mx (mx (gap a a') (gap b b')) (gap c c')) (gap d d')
theorem dist_f (a b c d a' b' c' d' : Int) : pixel_Dist.f a b c d a' b' c' d' = some (dist a b c d a' b' c' d') := by
  unfold pixel_Dist.f dist
  rw [limit_f, limit_f]
  simp only [Option.bind_some, apart_f]
/-- A number limited to 0 to 255. -/
def u8 (v : Int) : Int := mn 255 (mx v 0)
theorem u8_bd (v : Int) : 0 ≤ u8 v ∧ u8 v ≤ 255 := by unfold u8 mn mx; split <;> split <;> omega
theorem u8_of {v : Int} (h : 0 ≤ v) (h' : v ≤ 255) : u8 v = v := by unfold u8 mn mx; split <;> split <;> omega
theorem from8_f (v : Int) : pixel_From8.f v = some (257 * u8 v) := by
  have := u8_bd v
  have e : num_Clamp.f v 0 255 = some (u8 v) := rfl
  unfold pixel_From8.f
  rw [e, Option.bind_some, w64 (by omega) (by omega)]
theorem to8_f (k : Nat) (v : Int) : pixel_To8.f (k + 1) v = some (rd2 (un v) 257) := by
  have := un_bd v
  unfold pixel_To8.f
  rw [unit_f, Option.bind_some, div_f k (by omega) (by omega) (by omega) (by omega), Option.bind_some]
theorem to8_bd (v : Int) : 0 ≤ rd2 (un v) 257 ∧ rd2 (un v) 257 ≤ 255 := rd2_bd (by omega) (un_bd v).1 (by have := un_bd v; omega)

end Go.Proofs.Ytmklcmobahgeeaa.Pure
