/-
  Straight undoes Pre, exactly for opaque pixels and otherwise up to (Unit + A) / (2 A), as numbers. No conditions.
-/
import Derived.Test.YtmklcmobahgeeaaQ21
import Derived.Test.YtmklcmobahgeeaaQ22
import Derived.Test.YtmklcmobahgeeaaFun
import Derived.Test.YtmklcmobahgeeaaAwake
namespace Go.Proofs.Ytmklcmobahgeeaa.Pure
open Go.RowKit Go.Proofs.YtmklcmobahgeeaaW.PrintWords Go.Proofs.Ytmklcmobahgeeaa.Q Go.Proofs.Ytmklcmobahgeeaa.Num

theorem near_f {a b n : Int} (h1 : a - b ≤ n) (h2 : b - a ≤ n) (ha : 0 ≤ a ∧ a ≤ 65535) (hb : 0 ≤ b ∧ b ≤ 65535) : imageeditorlaw06_near.f a b n = some true := by
  unfold imageeditorlaw06_near.f
  rw [w64 (by omega) (by omega), w64 (by omega) (by omega), if_pos h1, decide_eq_true h2]
/-- A channel, premultiplied and straightened again. -/
theorem back {c d : Int} (hc : 0 ≤ c) (hc' : c ≤ 65535) (hd : 1 ≤ d) (hd' : d ≤ 65535) :
    let q := qu (rd2 (c * d) 65535) d
    0 ≤ q ∧ q ≤ 65535 ∧ c - q ≤ (65535 + d) / (2 * d) ∧ q - c ≤ (65535 + d) / (2 * d) ∧ (d = 65535 → q = c) := by
  intro q
  have hp := mul_bd hc hc' (by omega : 0 ≤ d) hd'
  have hx : 0 ≤ rd2 (c * d) 65535 ∧ rd2 (c * d) 65535 ≤ 65535 := rd2_bd (by omega) hp.1 hp.2
  have hq : q = mn 65535 (rd2 (rd2 (c * d) 65535 * 65535) d) := by
    show qu _ _ = _
    unfold qu
    rw [un_of hx.1 hx.2, un_of (by omega) hd', if_neg (by omega)]
  obtain ⟨e1, e2⟩ := rd2_near (a := c * d) (b := 65535) (by omega)
  obtain ⟨f1, f2⟩ := rd2_near (a := rd2 (c * d) 65535 * 65535) (b := d) (by omega)
  have hy : 0 ≤ rd2 (rd2 (c * d) 65535 * 65535) d := by unfold rd2; exact Int.ediv_nonneg (by omega) (by omega)
  have hu : d = 65535 → rd2 (rd2 (c * d) 65535 * 65535) d = c := by
    rintro rfl
    rw [rd2_mul c (by omega), rd2_mul c (by omega)]
  clear_value q
  generalize rd2 (c * d) 65535 * 65535 = E at *
  generalize rd2 E d = y at *
  have g1 : y - c ≤ (65535 + d) / (2 * d) := Int.le_ediv_of_mul_le (by omega) (by
    have : (y - c) * (2 * d) = 2 * (y * d) - 2 * (c * d) := by rw [Int.sub_mul, Int.mul_left_comm, Int.mul_left_comm c]
    omega)
  have g2 : c - y ≤ (65535 + d) / (2 * d) := Int.le_ediv_of_mul_le (by omega) (by
    have : (c - y) * (2 * d) = 2 * (c * d) - 2 * (y * d) := by rw [Int.sub_mul, Int.mul_left_comm, Int.mul_left_comm y]
    omega)
  have g3 : 0 ≤ (65535 + d) / (2 * d) := Int.ediv_nonneg (by omega) (by omega)
  unfold mn at hq
  by_cases h : y < 65535
  · rw [if_pos h] at hq
    subst hq
    exact ⟨hy, by omega, g2, g1, hu⟩
  · rw [if_neg h] at hq
    subst hq
    exact ⟨by omega, by omega, by omega, by omega, fun h' => by have := hu h'; omega⟩
theorem PixelStraightens (a b c d : Int) : ∃ k, imageeditorlaw06_PixelStraightens.f k a b c d = some true := by
  refine ⟨32, ?_⟩
  have early : imageeditorlaw06_PixelStraightens.j0 32 true a b c d = some true := by
    simp only [imageeditorlaw06_PixelStraightens.j0]
    rw [if_pos trivial, awake_of 1]
    rfl
  unfold imageeditorlaw06_PixelStraightens.f
  by_cases h1 : a < 0
  · rw [if_pos h1]; exact early
  by_cases h2 : a > 65535
  · rw [if_neg h1, if_pos h2]; exact early
  by_cases h3 : b < 0
  · rw [if_neg h1, if_neg h2, if_pos h3]; exact early
  by_cases h4 : b > 65535
  · rw [if_neg h1, if_neg h2, if_neg h3, if_pos h4]; exact early
  by_cases h5 : c < 0
  · rw [if_neg h1, if_neg h2, if_neg h3, if_neg h4, if_pos h5]; exact early
  by_cases h6 : c > 65535
  · rw [if_neg h1, if_neg h2, if_neg h3, if_neg h4, if_neg h5, if_pos h6]; exact early
  by_cases h7 : d < 1
  · rw [if_neg h1, if_neg h2, if_neg h3, if_neg h4, if_neg h5, if_neg h6, if_pos h7]; exact early
  by_cases h8 : d > 65535
  · rw [if_neg h1, if_neg h2, if_neg h3, if_neg h4, if_neg h5, if_neg h6, if_neg h7, decide_eq_true h8]; exact early
  rw [if_neg h1, if_neg h2, if_neg h3, if_neg h4, if_neg h5, if_neg h6, if_neg h7, decide_eq_false h8]
  obtain ⟨a0, a1, a2, a3, a4⟩ := back (c := a) (d := d) (by omega) (by omega) (by omega) (by omega)
  obtain ⟨b0, b1, b2, b3, b4⟩ := back (c := b) (d := d) (by omega) (by omega) (by omega) (by omega)
  obtain ⟨c0, c1, c2, c3, c4⟩ := back (c := c) (d := d) (by omega) (by omega) (by omega) (by omega)
  have hu : ∀ x : Int, 0 ≤ x → x ≤ 65535 → 0 ≤ rd2 (x * d) 65535 ∧ rd2 (x * d) 65535 ≤ 65535 := fun x h h' => by
    have hp := mul_bd h h' (by omega : 0 ≤ d) (by omega : d ≤ 65535)
    exact rd2_bd (by omega) hp.1 hp.2
  have hn : wrap64 (Int.tdiv (wrap64 (65535 + d)) (wrap64 (2 * d))) = (65535 + d) / (2 * d) := by
    rw [w64 (n := 65535 + d) (by omega) (by omega), w64 (n := 2 * d) (by omega) (by omega), Int.tdiv_eq_ediv_of_nonneg (by omega)]
    have h := Int.ediv_le_self (2 * d) (by omega : 0 ≤ 65535 + d)
    have h' : 0 ≤ (65535 + d) / (2 * d) := Int.ediv_nonneg (by omega) (by omega)
    exact w64 (by omega) (by omega)
  have ua := hu a (by omega) (by omega)
  have ub := hu b (by omega) (by omega)
  have uc := hu c (by omega) (by omega)
  have last : imageeditorlaw06_PixelStraightens.j1 31 false a b c d (qu (rd2 (a * d) 65535) d) (qu (rd2 (b * d) 65535) d) (qu (rd2 (c * d) 65535) d) d = some true := by
    simp only [imageeditorlaw06_PixelStraightens.j1]
    rw [if_neg (by simp), if_neg (by rw [w64 (by omega) (by omega)]; omega), hn, near_f a2 a3 (by omega) (by omega), near_f b2 b3 (by omega) (by omega), near_f c2 c3 (by omega) (by omega), awake_of 0]
    simp
  simp only [imageeditorlaw06_PixelStraightens.j0]
  rw [if_neg (by simp), pre_f, un_of (x := a) (by omega) (by omega), un_of (x := b) (by omega) (by omega), un_of (x := c) (by omega) (by omega), un_of (x := d) (by omega) (by omega)]
  simp only [Option.bind_some]
  rw [straight_f, un_of ua.1 ua.2, un_of ub.1 ub.2, un_of uc.1 uc.2, un_of (x := d) (by omega) (by omega), if_neg (by omega)]
  simp only [Option.bind_some]
  rw [valid_f, un_of a0 a1, un_of b0 b1, un_of c0 c1, un_of (x := d) (by omega) (by omega)]
  simp only [Option.bind_some, beq_self_eq_true, Bool.and_self, if_true]
  by_cases h : d = 65535
  · rw [if_pos h]
    have e : (!(qu (rd2 (a * d) 65535) d == a) || (!(qu (rd2 (b * d) 65535) d == b) || (!(qu (rd2 (c * d) 65535) d == c) || !true))) = false := by
      rw [a4 h, b4 h, c4 h]; simp
    rw [e]; exact last
  · rw [if_neg h]; exact last
end Go.Proofs.Ytmklcmobahgeeaa.Pure
