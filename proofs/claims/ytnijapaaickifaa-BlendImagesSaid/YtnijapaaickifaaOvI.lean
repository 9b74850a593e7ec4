/-
  Compositing of two pixels comes to the same numbers for program and reference. Plain facts, no conditions beside those written.
-/
import Derived.Test.YtnijapaaickifaaI11
import Derived.Test.YtnijapaaickifaaColI
namespace Go.Proofs.Ytnijapaaickifaa.Num
open Go.RowKit Go.Proofs.YtnijapaaickifaaW.PrintWords Go.Proofs.YtnijapaaickifaaW.PrintLast Go.Proofs.Ytnijapaaickifaa.I

/-- The common denominator of compositing, by the source's and the backdrop's opacity. -/
def den (s b : Int) : Int := 65535 * (s + b) - s * b
/-- One channel's numerator: of the backdrop, the source and the blended color. -/
def nom (x y z s b : Int) : Int := y * s * (65535 - b) + x * b * (65535 - s) + z * s * b
section
variable {s b x y z : Int} (hs : 0 ≤ s ∧ s ≤ 65535) (hb : 0 ≤ b ∧ b ≤ 65535)
include hs hb
theorem den_bd : 0 ≤ den s b ∧ den s b ≤ 4294836225 ∧ (den s b ≠ 0 → 65535 ≤ den s b) := by
  have p := mul_bd hs.1 hs.2 hb.1 hb.2
  have p1 : s * b ≤ s * 65535 := Int.mul_le_mul_of_nonneg_left hb.2 hs.1
  have p2 : s * b ≤ 65535 * b := Int.mul_le_mul_of_nonneg_right hs.2 hb.1
  have q := mul_bd (a := 65535 - s) (b := 65535 - b) (A := 65535) (B := 65535) (by omega) (by omega) (by omega) (by omega)
  have e : (65535 - s) * (65535 - b) = 4294836225 - 65535 * s - 65535 * b + s * b := by
    rw [Int.sub_mul, Int.mul_sub, Int.mul_sub]; omega
  unfold den
  refine ⟨by omega, by omega, fun h => ?_⟩
  by_cases h0 : s = 0
  · subst h0; rw [Int.zero_mul] at h ⊢; omega
  · omega
theorem den_w : wrap64 (wrap64 (65535 * wrap64 (s + b)) - wrap64 (s * b)) = den s b := by
  have p := mul_bd hs.1 hs.2 hb.1 hb.2
  unfold den
  rw [w64 (n := s + b) (by omega) (by omega), w64 (n := 65535 * (s + b)) (by omega) (by omega), w64 (n := s * b) (by omega) (by omega), w64 (by omega) (by omega)]
theorem alpha_bd : 0 ≤ rd2 (den s b) 65535 ∧ rd2 (den s b) 65535 ≤ 65535 ∧ (den s b ≠ 0 → 1 ≤ rd2 (den s b) 65535) := by
  have d := den_bd hs hb
  have h := rd2_bd (a := den s b) (b := 65535) (c := 65535) (by omega) d.1 (by omega)
  refine ⟨h.1, h.2, fun hne => ?_⟩
  have := rd2_mono (b := 65535) (by omega) (d.2.2 hne)
  have e := rd2_mul (b := 65535) 1 (by omega)
  rw [Int.one_mul] at e
  omega
variable (hx : 0 ≤ x ∧ x ≤ 65535) (hy : 0 ≤ y ∧ y ≤ 65535) (hz : 0 ≤ z ∧ z ≤ 65535)
include hx hy hz
theorem nom_bd : 0 ≤ nom x y z s b ∧ nom x y z s b ≤ 65535 * den s b := by
  have hs' : 0 ≤ 65535 - s := by omega
  have hb' : 0 ≤ 65535 - b := by omega
  have a1 : 0 ≤ s * (65535 - b) := Int.mul_nonneg hs.1 hb'
  have a2 : 0 ≤ b * (65535 - s) := Int.mul_nonneg hb.1 hs'
  have a3 : 0 ≤ s * b := Int.mul_nonneg hs.1 hb.1
  have l1 : y * (s * (65535 - b)) ≤ 65535 * (s * (65535 - b)) := Int.mul_le_mul_of_nonneg_right hy.2 a1
  have l2 : x * (b * (65535 - s)) ≤ 65535 * (b * (65535 - s)) := Int.mul_le_mul_of_nonneg_right hx.2 a2
  have l3 : z * (s * b) ≤ 65535 * (s * b) := Int.mul_le_mul_of_nonneg_right hz.2 a3
  have n1 := Int.mul_nonneg hy.1 a1
  have n2 := Int.mul_nonneg hx.1 a2
  have n3 := Int.mul_nonneg hz.1 a3
  have e1 : s * (65535 - b) = 65535 * s - s * b := by rw [Int.mul_sub]; omega
  have e2 : b * (65535 - s) = 65535 * b - s * b := by rw [Int.mul_sub, Int.mul_comm b s]; omega
  unfold nom den
  rw [Int.mul_assoc y, Int.mul_assoc x, Int.mul_assoc z]
  omega
theorem nom_w : wrap64 (wrap64 (wrap64 (wrap64 (y * s) * wrap64 (65535 - b)) + wrap64 (wrap64 (x * b) * wrap64 (65535 - s))) + wrap64 (wrap64 (z * s) * b)) = nom x y z s b := by
  have p1 := mul_bd hy.1 hy.2 hs.1 hs.2
  have p2 := mul_bd hx.1 hx.2 hb.1 hb.2
  have p3 := mul_bd hz.1 hz.2 hs.1 hs.2
  have q1 := mul_bd (a := y * s) (b := 65535 - b) (A := 65535 * 65535) (B := 65535) p1.1 p1.2 (by omega) (by omega)
  have q2 := mul_bd (a := x * b) (b := 65535 - s) (A := 65535 * 65535) (B := 65535) p2.1 p2.2 (by omega) (by omega)
  have q3 := mul_bd (a := z * s) (b := b) (A := 65535 * 65535) (B := 65535) p3.1 p3.2 hb.1 hb.2
  unfold nom
  rw [w64 (n := y * s) (by omega) (by omega), w64 (n := x * b) (by omega) (by omega), w64 (n := z * s) (by omega) (by omega), w64 (n := 65535 - b) (by omega) (by omega), w64 (n := 65535 - s) (by omega) (by omega), w64 (n := y * s * (65535 - b)) (by omega) (by omega), w64 (n := x * b * (65535 - s)) (by omega) (by omega), w64 (n := z * s * b) (by omega) (by omega), w64 (n := y * s * (65535 - b) + x * b * (65535 - s)) (by omega) (by omega), w64 (by omega) (by omega)]
theorem part_bd (h : den s b ≠ 0) : 0 ≤ rd2 (nom x y z s b) (den s b) ∧ rd2 (nom x y z s b) (den s b) ≤ 65535 := by
  have d := den_bd hs hb
  have n := nom_bd hs hb hx hy hz
  exact rd2_bd (by omega) n.1 n.2
theorem part_f (h : den s b ≠ 0) (s0 s1 s2 b0 b1 b2 : Int) : blend_Over_1.f x y z s0 s1 s2 s b0 b1 b2 b (den s b) = some (rd2 (nom x y z s b) (den s b)) := by
  have d := den_bd hs hb
  have n := nom_bd hs hb hx hy hz
  unfold blend_Over_1.f
  rw [nom_w hs hb hx hy hz, div_f 8 (by omega) (by omega) (by omega) (by omega)]
end
/-- The channels of a blended color are unit values. -/
theorem ch_bd (m : Int) {x y : Int} (hx : 0 ≤ x ∧ x ≤ 65535) (hy : 0 ≤ y ∧ y ≤ 65535) : 0 ≤ ch m x y ∧ ch m x y ≤ 65535 := by
  have hp := mul_le hx hy
  have hh : ∀ {u v : Int}, 0 ≤ u ∧ u ≤ 65535 → 0 ≤ v ∧ v ≤ 65535 → 0 ≤ hd u v ∧ hd u v ≤ 65535 := by
    intro u v hu hv
    unfold hd
    split
    · have := mul_le hu (show 0 ≤ 2 * v ∧ 2 * v ≤ 65535 by omega); omega
    · have h := mul_le hu (show 0 ≤ 2 * v - 65535 ∧ 2 * v - 65535 ≤ 65535 by omega)
      have k : u + (2 * v - 65535) - rd2 (u * (2 * v - 65535)) 65535 ≤ 65535 := by
        generalize hw : 2 * v - 65535 = w at *
        have q := mul_bd (a := 65535 - u) (b := 65535 - w) (A := 65535) (B := 65535) (by omega) (by omega) (by omega) (by omega)
        have e : (65535 - u) * (65535 - w) = 4294836225 - 65535 * u - 65535 * w + u * w := by rw [Int.sub_mul, Int.mul_sub, Int.mul_sub]; omega
        have g := rd2_near (a := u * w) (b := 65535) (by omega)
        omega
      omega
  have ib : ∀ {p : Prop} [Decidable p] {u v : Int}, 0 ≤ u ∧ u ≤ 65535 → 0 ≤ v ∧ v ≤ 65535 → 0 ≤ (if p then u else v) ∧ (if p then u else v) ≤ 65535 := by
    intro p _ u v hu hv
    split
    · exact hu
    · exact hv
  have hs : 0 ≤ x + y - rd2 (x * y) 65535 ∧ x + y - rd2 (x * y) 65535 ≤ 65535 := by
    have q := mul_bd (a := 65535 - x) (b := 65535 - y) (A := 65535) (B := 65535) (by omega) (by omega) (by omega) (by omega)
    have e : (65535 - x) * (65535 - y) = 4294836225 - 65535 * x - 65535 * y + x * y := by rw [Int.sub_mul, Int.mul_sub, Int.mul_sub]; omega
    have g := rd2_near (a := x * y) (b := 65535) (by omega)
    omega
  have h0 : (0 : Int) ≤ 0 ∧ (0 : Int) ≤ 65535 := by omega
  have h1 : (0 : Int) ≤ 65535 ∧ (65535 : Int) ≤ 65535 := by omega
  unfold ch
  refine ib ⟨hp.1, by omega⟩ (ib hs (ib (hh hy hx) (ib ?_ (ib ?_ (ib (ib h0 (ib h1 ?_)) (ib (ib h1 (ib h0 ?_)) (ib (hh hx hy) (ib (un_bd _) (ib ?_ (ib (un_bd _) (ib (un_bd _) (ib (un_bd _) hy))))))))))))
  · unfold mn; exact ib hy hx
  · unfold mx; exact ib hy hx
  · exact mn_bd (by unfold rd2; exact Int.ediv_nonneg (by omega) (by omega))
  · have := mn_bd (show 0 ≤ rd2 ((65535 - x) * 65535) y by unfold rd2; exact Int.ediv_nonneg (by omega) (by omega))
    omega
  · unfold mx mn
    by_cases c1 : x < y
    · rw [if_pos c1, if_neg (by omega)]; omega
    · rw [if_neg c1]
      by_cases c2 : y < x
      · rw [if_pos c2]; omega
      · rw [if_neg c2]; omega
section
variable {a b c a' b' c' : Int} (ha : 0 ≤ a ∧ a ≤ 65535) (hb : 0 ≤ b ∧ b ≤ 65535) (hc : 0 ≤ c ∧ c ≤ 65535) (ha' : 0 ≤ a' ∧ a' ≤ 65535) (hb' : 0 ≤ b' ∧ b' ≤ 65535) (hc' : 0 ≤ c' ∧ c' ≤ 65535)
include ha hb hc ha' hb' hc'
theorem col_bd (m : Int) : (0 ≤ (col m a b c a' b' c').1 ∧ (col m a b c a' b' c').1 ≤ 65535) ∧ (0 ≤ (col m a b c a' b' c').2.1 ∧ (col m a b c a' b' c').2.1 ≤ 65535) ∧ (0 ≤ (col m a b c a' b' c').2.2.1 ∧ (col m a b c a' b' c').2.2.1 ≤ 65535) ∧ (col m a b c a' b' c').2.2.2 = 65535 := by
  unfold col
  split; · exact ⟨setl_bd _ _ _ _ _, setl_bd _ _ _ _ _, setl_bd _ _ _ _ _, rfl⟩
  split; · exact ⟨setl_bd _ _ _ _ _, setl_bd _ _ _ _ _, setl_bd _ _ _ _ _, rfl⟩
  split; · exact ⟨setl_bd _ _ _ _ _, setl_bd _ _ _ _ _, setl_bd _ _ _ _ _, rfl⟩
  split; · exact ⟨setl_bd _ _ _ _ _, setl_bd _ _ _ _ _, setl_bd _ _ _ _ _, rfl⟩
  exact ⟨ch_bd m ha ha', ch_bd m hb hb', ch_bd m hc hc', rfl⟩
end
/-- A pixel composited over another one, of unit values. -/
def ov (m a b c d a' b' c' d' : Int) : Int × Int × Int × Int :=
  if den d' d = 0 then (0, 0, 0, 0) else
    (rd2 (nom a a' (col m a b c a' b' c').1 d' d) (den d' d), rd2 (nom b b' (col m a b c a' b' c').2.1 d' d) (den d' d), rd2 (nom c c' (col m a b c a' b' c').2.2.1 d' d) (den d' d), rd2 (den d' d) 65535)
theorem over_f (k : Nat) (m a b c d a' b' c' d' : Int) : blend_Over.f (k + 3) m a b c d a' b' c' d' = some (ov m (un a) (un b) (un c) (un d) (un a') (un b') (un c') (un d')) := by
  have ha := un_bd a
  have hb := un_bd b
  have hc := un_bd c
  have hd := un_bd d
  have ha' := un_bd a'
  have hb' := un_bd b'
  have hc' := un_bd c'
  have hd' := un_bd d'
  unfold blend_Over.f ov
  rw [limit_f, limit_f]
  simp only [Option.bind_some, den_w hd' hd, colors_f, un_un]
  have hk := col_bd ha hb hc ha' hb' hc' m
  generalize col m (un a) (un b) (un c) (un a') (un b') (un c') = q at *
  have hn := den_bd hd' hd
  by_cases h : den (un d') (un d) = 0
  · rw [if_pos h, if_pos h]
  · rw [if_neg h, if_neg h, part_f hd' hd ha ha' hk.1 h, part_f hd' hd hb hb' hk.2.1 h, part_f hd' hd hc hc' hk.2.2.1 h, div_f (k + 2) (by omega) (by omega) (by omega) (by omega)]
    rfl
end Go.Proofs.Ytnijapaaickifaa.Num
