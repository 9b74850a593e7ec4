/-
  Mixing begins with the first pixel and ends with the second one, leaves equal pixels alone, is symmetric and stays between both, as numbers. No conditions.
-/
import Derived.Test.YtmklcmobahgeeaaQ21
import Derived.Test.YtmklcmobahgeeaaQ23
import Derived.Test.YtmklcmobahgeeaaRef
import Derived.Test.YtmklcmobahgeeaaFun
import Derived.Test.YtmklcmobahgeeaaAwake
namespace Go.Proofs.Ytmklcmobahgeeaa.Pure
open Go.RowKit Go.Proofs.YtmklcmobahgeeaaW.PrintWords Go.Proofs.Ytmklcmobahgeeaa.Q Go.Proofs.Ytmklcmobahgeeaa.Num

/-- x lies from the lesser to the greater one of a and b. -/
def Mid (x a b : Int) : Prop := (a ≤ x ∧ x ≤ b) ∨ (b ≤ x ∧ x ≤ a)
theorem mid_f {x a b : Int} (h : Mid x a b) : imageeditorlaw06_between.f x a b = some true := by
  unfold imageeditorlaw06_between.f
  unfold Mid at h
  by_cases h1 : x ≥ a
  · rw [if_pos h1]
    by_cases h2 : x ≤ b
    · rw [if_pos h2]
    · rw [if_neg h2, if_pos (by omega), decide_eq_true (by omega)]
  · rw [if_neg h1, if_pos (by omega), decide_eq_true (by omega)]
theorem mean_lo {x y p q : Int} (hp : 0 ≤ p) (hq : 0 ≤ q) (h : 0 < p + q) (hxy : x ≤ y) : x ≤ rd2 (x * p + y * q) (p + q) ∧ rd2 (x * p + y * q) (p + q) ≤ y := by
  have h1 : x * q ≤ y * q := Int.mul_le_mul_of_nonneg_right hxy hq
  have h2 : x * p ≤ y * p := Int.mul_le_mul_of_nonneg_right hxy hp
  have e1 : x * (p + q) = x * p + x * q := Int.mul_add ..
  have e2 : y * (p + q) = y * p + y * q := Int.mul_add ..
  constructor
  · have := rd2_mono (a := x * (p + q)) (a' := x * p + y * q) h (by omega)
    rwa [rd2_mul x h] at this
  · have := rd2_mono (a := x * p + y * q) (a' := y * (p + q)) h (by omega)
    rwa [rd2_mul y h] at this
/-- A rounded mean lies between. -/
theorem mean {x y p q : Int} (hp : 0 ≤ p) (hq : 0 ≤ q) (h : 0 < p + q) : Mid (rd2 (x * p + y * q) (p + q)) x y := by
  rcases Int.le_total x y with hxy | hxy
  · exact .inl (mean_lo hp hq h hxy)
  · have := mean_lo hq hp (by omega : 0 < q + p) hxy
    rw [Int.add_comm (y * q), Int.add_comm q] at this
    exact .inr this
theorem mid_bd {x a b : Int} (h : Mid x a b) (ha : 0 ≤ a ∧ a ≤ 65535) (hb : 0 ≤ b ∧ b ≤ 65535) : 0 ≤ x ∧ x ≤ 65535 := by
  unfold Mid at h; omega
section
variable {a b c d a' b' c' d' t : Int} (ha : 0 ≤ a ∧ a ≤ 65535) (hb : 0 ≤ b ∧ b ≤ 65535) (hc : 0 ≤ c ∧ c ≤ 65535) (hd : 0 ≤ d ∧ d ≤ 65535) (ha' : 0 ≤ a' ∧ a' ≤ 65535) (hb' : 0 ≤ b' ∧ b' ≤ 65535) (hc' : 0 ≤ c' ∧ c' ≤ 65535) (hd' : 0 ≤ d' ∧ d' ≤ 65535) (ht : 0 ≤ t ∧ t ≤ 65535)
include ha hb hc hd ha' hb' hc' hd' ht
theorem mixed_of (p q : Int) (hp : d * (65535 - t) = p) (hq : d' * t = q) (hn : rd2 (p + q) 65535 ≠ 0) : mixed a b c d a' b' c' d' t = some (rd2 (a * p + a' * q) (p + q), rd2 (b * p + b' * q) (p + q), rd2 (c * p + c' * q) (p + q), rd2 (p + q) 65535) := by
  have e1 : wA d t = p := by unfold wA; rw [un_of hd.1 hd.2, un_of ht.1 ht.2, hp]
  have e2 : wB d' t = q := by unfold wB; rw [un_of hd'.1 hd'.2, un_of ht.1 ht.2, hq]
  unfold mixed
  rw [e1, e2, if_neg hn, un_of ha.1 ha.2, un_of hb.1 hb.2, un_of hc.1 hc.2, un_of ha'.1 ha'.2, un_of hb'.1 hb'.2, un_of hc'.1 hc'.2]
end
theorem clear_mix (k : Nat) (a b t : Int) : pixel_Mix.f (k + 1) a 0 0 0 0 b 0 0 t = some (0, 0, 0, 0) := by
  rw [mix_f]
  unfold mixed
  rw [if_pos]
  have e1 : wA 0 t = 0 := by unfold wA; rw [un_of (by omega) (by omega), Int.zero_mul]
  have e2 : wB 0 t = 0 := by unfold wB; rw [un_of (by omega) (by omega), Int.zero_mul]
  rw [e1, e2]
  rfl
set_option maxHeartbeats 1000000 in
theorem between_at (a b c d a' b' c' d' t : Int) (ha : 0 ≤ a ∧ a ≤ 65535) (hb : 0 ≤ b ∧ b ≤ 65535) (hc : 0 ≤ c ∧ c ≤ 65535) (hd : 0 ≤ d ∧ d ≤ 65535) (ha' : 0 ≤ a' ∧ a' ≤ 65535) (hb' : 0 ≤ b' ∧ b' ≤ 65535) (hc' : 0 ≤ c' ∧ c' ≤ 65535) (hd' : 0 ≤ d' ∧ d' ≤ 65535) (ht : 0 ≤ t ∧ t ≤ 65535) (h0 : ¬ d = 0) (h0' : ¬ d' = 0) :
    imageeditorlaw06_PixelBetween.j0 32 t false a b c d a' b' c' d' = some true := by
  have hU : ∀ x : Int, rd2 (x * 65535) 65535 = x := fun x => rd2_mul x (by omega)
  obtain ⟨p, hp⟩ : ∃ p, d * (65535 - t) = p := ⟨_, rfl⟩
  obtain ⟨q, hq⟩ : ∃ q, d' * t = q := ⟨_, rfl⟩
  have pb := mul_bd hd.1 hd.2 (by omega : 0 ≤ 65535 - t) (by omega : 65535 - t ≤ 65535)
  have qb := mul_bd hd'.1 hd'.2 ht.1 ht.2
  rw [hp] at pb
  rw [hq] at qb
  -- the alpha lies between both
  have hA : Mid (rd2 (p + q) 65535) d d' := by
    have := mean (x := d) (y := d') (p := 65535 - t) (q := t) (by omega) ht.1 (by omega)
    rw [hp, hq, show 65535 - t + t = 65535 from by omega] at this
    exact this
  have hn : rd2 (p + q) 65535 ≠ 0 := by unfold Mid at hA; omega
  have hpq : 0 < p + q := by
    rcases Int.lt_or_le 0 (p + q) with h | h
    · exact h
    · exact absurd (by rw [show p + q = 0 from by omega]; rfl) hn
  have m0 := mixed_of ha hb hc hd ha' hb' hc' hd' ht p q hp hq hn
  have mR := mean (x := a) (y := a') pb.1 qb.1 hpq
  have mG := mean (x := b) (y := b') pb.1 qb.1 hpq
  have mB := mean (x := c) (y := c') pb.1 qb.1 hpq
  have bR := mid_bd mR ha ha'
  have bG := mid_bd mG hb hb'
  have bB := mid_bd mB hc hc'
  have bA := mid_bd hA hd hd'
  -- at the first end
  have m1 : mixed a b c d a' b' c' d' 0 = some (a, b, c, d) := by
    have hz : 0 < d * 65535 := by omega
    rw [mixed_of ha hb hc hd ha' hb' hc' hd' (by omega) (d * 65535) 0 (by omega) (by omega) (by rw [Int.add_zero, hU]; exact h0)]
    simp only [Int.mul_zero, Int.add_zero]
    rw [hU, rd2_mul a hz, rd2_mul b hz, rd2_mul c hz]
  -- at the second
  have m2 : mixed a b c d a' b' c' d' 65535 = some (a', b', c', d') := by
    have hz : 0 < d' * 65535 := by omega
    rw [mixed_of ha hb hc hd ha' hb' hc' hd' (by omega) 0 (d' * 65535) (by omega) rfl (by rw [Int.zero_add, hU]; exact h0')]
    simp only [Int.mul_zero, Int.zero_add]
    rw [hU, rd2_mul a' hz, rd2_mul b' hz, rd2_mul c' hz]
  -- with itself
  have m3 : mixed a b c d a b c d t = some (a, b, c, d) := by
    have hz : 0 < d * 65535 := by omega
    have e : p + d * t = d * 65535 := by rw [← hp, ← Int.mul_add]; congr 1; omega
    rw [mixed_of ha hb hc hd ha hb hc hd ht p (d * t) hp rfl (by rw [e, hU]; exact h0)]
    rw [← Int.mul_add, ← Int.mul_add, ← Int.mul_add, e, hU, rd2_mul a hz, rd2_mul b hz, rd2_mul c hz]
  -- turned round
  have m4 : mixed a' b' c' d' a b c d (65535 - t) = mixed a b c d a' b' c' d' t := by
    rw [m0, mixed_of ha' hb' hc' hd' ha hb hc hd (by omega) q p (by rw [show 65535 - (65535 - t) = t from by omega]; exact hq) hp (by rw [Int.add_comm]; exact hn)]
    rw [Int.add_comm (a' * q), Int.add_comm (b' * q), Int.add_comm (c' * q), Int.add_comm q]
  simp only [imageeditorlaw06_PixelBetween.j0]
  rw [if_neg (by simp), mix_f, mix_f, mix_f, mix_f, w64 (by omega) (by omega), mix_f, m1, m2, m3, m4, m0]
  generalize rd2 (a * p + a' * q) (p + q) = r at *
  generalize rd2 (b * p + b' * q) (p + q) = g at *
  generalize rd2 (c * p + c' * q) (p + q) = l at *
  generalize rd2 (p + q) 65535 = o at *
  simp only [Option.bind_some]
  rw [valid_f, un_of bR.1 bR.2, un_of bG.1 bG.2, un_of bB.1 bB.2, un_of bA.1 bA.2, awake_of 1, mid_f mR, mid_f mG, mid_f mB, mid_f hA]
  simp
theorem PixelBetween (a b c d a' b' c' d' t : Int) : ∃ k, imageeditorlaw06_PixelBetween.f k a b c d a' b' c' d' t = some true := by
  refine ⟨32, ?_⟩
  unfold imageeditorlaw06_PixelBetween.f
  rw [rlimit_f, rlimit_f, rU_f]
  simp only [Option.bind_some]
  have early : imageeditorlaw06_PixelBetween.j0 32 (un t) true (un a) (un b) (un c) (un d) (un a') (un b') (un c') (un d') = some true := by
    simp only [imageeditorlaw06_PixelBetween.j0]
    rw [if_pos trivial, clear_mix, awake_of 1]
    simp
  by_cases h : un d = 0
  · rw [if_pos h]; exact early
  · rw [if_neg h]
    by_cases h' : un d' = 0
    · rw [show (un d' == 0) = true from by rw [beq_iff_eq]; exact h']; exact early
    · rw [show (un d' == 0) = false from by rw [beq_eq_false_iff_ne]; exact h']
      exact between_at _ _ _ _ _ _ _ _ _ (un_bd a) (un_bd b) (un_bd c) (un_bd d) (un_bd a') (un_bd b') (un_bd c') (un_bd d') (un_bd t) h h'
end Go.Proofs.Ytmklcmobahgeeaa.Pure
