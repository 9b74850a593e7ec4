/-
  The channel functions of the modes come to the same numbers for program and reference. Plain facts, no conditions beside those written.
-/
import Derived.Test.YtnijapaaickifaaI19
import Derived.Test.YtnijapaaickifaaI7
import Derived.Test.YtnijapaaickifaaRefI
namespace Go.Proofs.Ytnijapaaickifaa.Num
open Go.RowKit Go.Proofs.YtnijapaaickifaaW.PrintWords Go.Proofs.YtnijapaaickifaaW.PrintLast Go.Proofs.Ytnijapaaickifaa.I

/-- Twice the backdrop's light, or its inverse. -/
def hd (x y : Int) : Int := if 2 * y ≤ 65535 then rd2 (x * (2 * y)) 65535 else x + (2 * y - 65535) - rd2 (x * (2 * y - 65535)) 65535
/-- The blended value of two unit values. -/
def ch (m x y : Int) : Int :=
  if m = 1 then rd2 (x * y) 65535 else if m = 2 then x + y - rd2 (x * y) 65535 else if m = 3 then hd y x else if m = 4 then mn x y else if m = 5 then mx x y else
  if m = 6 then (if x = 0 then 0 else if y = 65535 then 65535 else mn 65535 (rd2 (x * 65535) (65535 - y))) else
  if m = 7 then (if x = 65535 then 65535 else if y = 0 then 0 else 65535 - mn 65535 (rd2 ((65535 - x) * 65535) y)) else
  if m = 8 then hd x y else if m = 9 then un (rd2 (x * ((65535 - 2 * y) * x + 2 * y * 65535)) 4294836225) else if m = 10 then mx x y - mn x y else
  if m = 11 then un (x + y - rd2 (2 * x * y) 65535) else if m = 12 then un (x + y) else if m = 13 then un (x - y) else y

theorem mn_bd {a : Int} (h : 0 ≤ a) : 0 ≤ mn 65535 a ∧ mn 65535 a ≤ 65535 := by unfold mn; split <;> omega
theorem dark_of {x y : Int} : blend_of_2.f x y 4 = some (mn x y) := by
  unfold blend_of_2.f mn
  by_cases h : x < y
  · rw [if_pos (by simp [h]), if_neg (by omega)]
  · rw [if_neg (by simp [h])]
    by_cases h' : y < x
    · rw [if_pos h']
    · rw [if_neg h']; congr 1; omega
theorem light_of {x y : Int} : blend_of_2.f x y 5 = some (mx x y) := by
  unfold blend_of_2.f mx
  by_cases h : x < y
  · rw [if_neg (by simp [h]), if_pos h]
  · rw [if_pos (by simp [h]), if_neg h]
section
variable {x y : Int} (hx : 0 ≤ x ∧ x ≤ 65535) (hy : 0 ≤ y ∧ y ≤ 65535)
include hx hy
theorem mul_of : num_Mul.f x y = some (rd2 (x * y) 65535) := by rw [mul_f, un_of hx.1 hx.2, un_of hy.1 hy.2]
theorem mul_le : 0 ≤ rd2 (x * y) 65535 ∧ rd2 (x * y) 65535 ≤ x ∧ rd2 (x * y) 65535 ≤ y := by
  obtain ⟨p0, _⟩ := mul_bd hx.1 hx.2 hy.1 hy.2
  have p1 : x * y ≤ x * 65535 := Int.mul_le_mul_of_nonneg_left hy.2 hx.1
  have p2 : x * y ≤ 65535 * y := Int.mul_le_mul_of_nonneg_right hx.2 hy.1
  have h1 := rd2_bd (a := x * y) (b := 65535) (c := x) (by omega) p0 p1
  have h2 := rd2_bd (a := x * y) (b := 65535) (c := y) (by omega) p0 (by omega)
  exact ⟨h1.1, h1.2, h2.2⟩
theorem screen_of : blend_screen.f x y = some (x + y - rd2 (x * y) 65535) := by
  have := mul_le hx hy
  unfold blend_screen.f
  rw [mul_of hx hy, Option.bind_some, w64 (n := x + y) (by omega) (by omega), w64 (by omega) (by omega)]
theorem hard_of : blend_hard.f x y = some (hd x y) := by
  unfold blend_hard.f hd
  rw [w64 (n := 2 * y) (by omega) (by omega)]
  by_cases h : 2 * y ≤ 65535
  · rw [if_pos h, if_pos h, mul_of hx (by omega), Option.bind_some]
  · rw [if_neg h, if_neg h, w64 (n := 2 * y - 65535) (by omega) (by omega), screen_of hx (by omega), Option.bind_some]
theorem quo_of (h : y ≠ 0) : num_Quo.f x y = some (mn 65535 (rd2 (x * 65535) y)) := by
  rw [quo_f]
  unfold qu
  rw [un_of hx.1 hx.2, un_of hy.1 hy.2, if_neg h]
theorem dodge_of : blend_dodge.f x y = some (if x = 0 then 0 else if y = 65535 then 65535 else mn 65535 (rd2 (x * 65535) (65535 - y))) := by
  unfold blend_dodge.f
  by_cases h : x = 0
  · rw [if_pos h, if_pos h]
  · rw [if_neg h, if_neg h]
    by_cases h' : y = 65535
    · rw [if_pos h', if_pos h']
    · rw [if_neg h', if_neg h', w64 (n := 65535 - y) (by omega) (by omega), quo_of hx (by omega) (by omega), Option.bind_some]
theorem burn_of : blend_burn.f x y = some (if x = 65535 then 65535 else if y = 0 then 0 else 65535 - mn 65535 (rd2 ((65535 - x) * 65535) y)) := by
  unfold blend_burn.f
  by_cases h : x = 65535
  · rw [if_pos h, if_pos h]
  · rw [if_neg h, if_neg h]
    by_cases h' : y = 0
    · rw [if_pos h', if_pos h']
    · have q : 0 ≤ rd2 ((65535 - x) * 65535) y := by unfold rd2; exact Int.ediv_nonneg (by omega) (by omega)
      have := mn_bd q
      rw [if_neg h', if_neg h', w64 (n := 65535 - x) (by omega) (by omega), quo_of (by omega) hy h', Option.bind_some, w64 (by omega) (by omega)]
theorem soft_bd : -1125848486182125 ≤ x * ((65535 - 2 * y) * x + 2 * y * 65535) ∧ x * ((65535 - 2 * y) * x + 2 * y * 65535) ≤ 1125848486182125 ∧ -4294836225 ≤ (65535 - 2 * y) * x ∧ (65535 - 2 * y) * x ≤ 4294836225 := by
  obtain ⟨p0, p1⟩ := mul_bd hx.1 hx.2 hx.1 hx.2
  have q0 : 0 ≤ y * x := Int.mul_nonneg hy.1 hx.1
  have q1 : y * x ≤ 65535 * x := Int.mul_le_mul_of_nonneg_right hy.2 hx.1
  have e : (65535 - 2 * y) * x = 65535 * x - 2 * (y * x) := by rw [Int.sub_mul, Int.mul_assoc]
  have z : -4294836225 ≤ (65535 - 2 * y) * x ∧ (65535 - 2 * y) * x ≤ 4294836225 := by omega
  have z2 : 0 ≤ (65535 - 2 * y) * x + 2 * y * 65535 + 4294836225 ∧ (65535 - 2 * y) * x + 2 * y * 65535 + 4294836225 ≤ 17179344900 := by omega
  obtain ⟨s0, s1⟩ := mul_bd hx.1 hx.2 z2.1 z2.2
  have e2 : x * ((65535 - 2 * y) * x + 2 * y * 65535 + 4294836225) = x * ((65535 - 2 * y) * x + 2 * y * 65535) + x * 4294836225 := Int.mul_add ..
  refine ⟨by omega, by omega, z.1, z.2⟩
theorem soft_of (k : Nat) : blend_soft.f (k + 1) x y = some (un (rd2 (x * ((65535 - 2 * y) * x + 2 * y * 65535)) 4294836225)) := by
  obtain ⟨h1, h2, h3, h4⟩ := soft_bd hx hy
  unfold blend_soft.f
  rw [w64 (n := 2 * y) (by omega) (by omega), w64 (n := 65535 - 2 * y) (by omega) (by omega), w64 (n := (65535 - 2 * y) * x) (by omega) (by omega), w64 (n := 2 * y * 65535) (by omega) (by omega), w64 (n := (65535 - 2 * y) * x + 2 * y * 65535) (by omega) (by omega), w64 (n := x * ((65535 - 2 * y) * x + 2 * y * 65535)) (by omega) (by omega), div_f k (by omega) (by omega) (by omega) (by omega)]
  rfl
theorem diff_of : blend_of_3.f x y = some (mx x y - mn x y) := by
  unfold blend_of_3.f mx mn
  rw [w64 (by split <;> split <;> omega) (by split <;> split <;> omega)]
theorem excl_bd : 0 ≤ 2 * x * y ∧ 2 * x * y ≤ 8589672450 ∧ 0 ≤ rd2 (2 * x * y) 65535 ∧ rd2 (2 * x * y) 65535 ≤ 131070 := by
  obtain ⟨p0, p1⟩ := mul_bd hx.1 hx.2 hy.1 hy.2
  have e : 2 * x * y = 2 * (x * y) := Int.mul_assoc ..
  have := rd2_bd (a := 2 * x * y) (b := 65535) (c := 131070) (by omega) (by omega) (by omega)
  exact ⟨by omega, by omega, this.1, this.2⟩
theorem excl_of (k : Nat) : blend_of_4.f (k + 1) x y = some (un (x + y - rd2 (2 * x * y) 65535)) := by
  obtain ⟨h1, h2, h3, h4⟩ := excl_bd hx hy
  unfold blend_of_4.f
  rw [w64 (n := 2 * x) (by omega) (by omega), w64 (n := 2 * x * y) (by omega) (by omega), div_f k (by omega) (by omega) (by omega) (by omega), Option.bind_some, w64 (n := x + y) (by omega) (by omega), w64 (by omega) (by omega)]
  rfl
theorem chan_f (m : Int) : chan.f x y m (ofsign m) = some (ch m x y) := by
  unfold chan.f ch
  by_cases h1 : m = 1
  · rw [if_pos h1, if_pos h1]; exact mul_of hx hy
  rw [if_neg h1, if_neg h1]
  by_cases h2 : m = 2
  · rw [if_pos h2, if_pos h2]; exact screen_of hx hy
  rw [if_neg h2, if_neg h2]
  by_cases h3 : m = 3
  · rw [if_pos h3, if_pos h3]; unfold blend_of_1.f; rw [hard_of hy hx]; rfl
  rw [if_neg h3, if_neg h3]
  by_cases h4 : m = 4
  · rw [if_pos (.inl h4), if_pos h4, h4]; exact dark_of
  by_cases h5 : m = 5
  · rw [if_pos (.inr h5), if_neg h4, if_pos h5, h5]; exact light_of
  rw [if_neg (by omega), if_neg h4, if_neg h5]
  by_cases h6 : m = 6
  · rw [if_pos h6, if_pos h6]; exact dodge_of hx hy
  rw [if_neg h6, if_neg h6]
  by_cases h7 : m = 7
  · rw [if_pos h7, if_pos h7]; exact burn_of hx hy
  rw [if_neg h7, if_neg h7]
  by_cases h8 : m = 8
  · rw [if_pos h8, if_pos h8]; exact hard_of hx hy
  rw [if_neg h8, if_neg h8]
  by_cases h9 : m = 9
  · rw [if_pos h9, if_pos h9]; exact soft_of hx hy 8
  rw [if_neg h9, if_neg h9]
  by_cases h10 : m = 10
  · rw [if_pos h10, if_pos h10]; exact diff_of hx hy
  rw [if_neg h10, if_neg h10]
  by_cases h11 : m = 11
  · rw [if_pos h11, if_pos h11]; exact excl_of hx hy 8
  rw [if_neg h11, if_neg h11]
  by_cases h12 : m = 12
  · rw [if_pos (.inl h12), if_pos h12]
    unfold blend_of_5.f
    rw [show ofsign m = 1 from if_pos h12, Int.one_mul, w64 (n := y) (by omega) (by omega), w64 (by omega) (by omega)]; rfl
  by_cases h13 : m = 13
  · rw [if_pos (.inr h13), if_neg h12, if_pos h13]
    unfold blend_of_5.f
    rw [show ofsign m = -1 from if_neg h12, show (-1 : Int) * y = -y from by omega, w64 (n := -y) (by omega) (by omega), show x + -y = x - y from by omega, w64 (by omega) (by omega)]; rfl
  rw [if_neg (by omega), if_neg h12, if_neg h13]
  rfl
end

/-! ### the reference -/
theorem rUnit_f (x : Int) : imageeditorref01_Unit.f x = some (un x) := rfl
section
variable {x y : Int} (hx : 0 ≤ x ∧ x ≤ 65535) (hy : 0 ≤ y ∧ y ≤ 65535) (k : Nat)
include hx hy
theorem rmul_of : imageeditorref01_Mul.f (k + 1) x y = some (rd2 (x * y) 65535) := by
  obtain ⟨p0, p1⟩ := mul_bd hx.1 hx.2 hy.1 hy.2
  unfold imageeditorref01_Mul.f
  rw [rUnit_f, rUnit_f, Option.bind_some, Option.bind_some, un_of hx.1 hx.2, un_of hy.1 hy.2, w64 (n := x * y) (by omega) (by omega), rdiv_f k (by omega) (by omega) (by omega) (by omega)]
  rfl
theorem rscreen_of : imageeditorref10_screen.f (k + 1) x y = some (x + y - rd2 (x * y) 65535) := by
  have := mul_le hx hy
  unfold imageeditorref10_screen.f
  rw [rmul_of hx hy, Option.bind_some, w64 (n := x + y) (by omega) (by omega), w64 (by omega) (by omega)]
theorem rhard_of : imageeditorref10_hard.f (k + 1) x y = some (hd x y) := by
  unfold imageeditorref10_hard.f hd
  rw [w64 (n := 2 * y) (by omega) (by omega)]
  by_cases h : 2 * y ≤ 65535
  · rw [if_pos h, if_pos h, rmul_of hx (by omega), Option.bind_some]
  · rw [if_neg h, if_neg h, w64 (n := 2 * y - 65535) (by omega) (by omega), rscreen_of hx (by omega), Option.bind_some]
theorem rquo_of (h : y ≠ 0) : imageeditorref01_Quo.f (k + 1) x y = some (mn 65535 (rd2 (x * 65535) y)) := by
  unfold imageeditorref01_Quo.f
  simp only [rUnit_f, Option.bind_some, un_of hx.1 hx.2, un_of hy.1 hy.2]
  rw [if_neg h, w64 (n := x * 65535) (by omega) (by omega), rdiv_f k (by omega) (by omega) (by omega) (by omega)]
  rfl
theorem rdodge_of : imageeditorref10_dodge.f (k + 1) x y = some (if x = 0 then 0 else if y = 65535 then 65535 else mn 65535 (rd2 (x * 65535) (65535 - y))) := by
  unfold imageeditorref10_dodge.f
  by_cases h : x = 0
  · rw [if_pos h, if_pos h]
  · rw [if_neg h, if_neg h]
    by_cases h' : y = 65535
    · rw [if_pos h', if_pos h']
    · rw [if_neg h', if_neg h', w64 (n := 65535 - y) (by omega) (by omega), rquo_of hx (by omega) k (by omega), Option.bind_some]
theorem rburn_of : imageeditorref10_burn.f (k + 1) x y = some (if x = 65535 then 65535 else if y = 0 then 0 else 65535 - mn 65535 (rd2 ((65535 - x) * 65535) y)) := by
  unfold imageeditorref10_burn.f
  by_cases h : x = 65535
  · rw [if_pos h, if_pos h]
  · rw [if_neg h, if_neg h]
    by_cases h' : y = 0
    · rw [if_pos h', if_pos h']
    · have q : 0 ≤ rd2 ((65535 - x) * 65535) y := by unfold rd2; exact Int.ediv_nonneg (by omega) (by omega)
      have := mn_bd q
      rw [if_neg h', if_neg h', w64 (n := 65535 - x) (by omega) (by omega), rquo_of (by omega) hy k h', Option.bind_some, w64 (by omega) (by omega)]
end
theorem rchannel_f (k : Nat) (m a b : Int) : imageeditorref10_Channel.f (k + 1) m a b = some (ch m (un a) (un b)) := by
  have hx := un_bd a
  have hy := un_bd b
  unfold imageeditorref10_Channel.f
  rw [rUnit_f, rUnit_f, Option.bind_some, Option.bind_some]
  generalize un a = x at *
  generalize un b = y at *
  unfold ch
  by_cases h1 : m = 1
  · rw [if_pos h1, if_pos h1, rmul_of hx hy]; rfl
  rw [if_neg h1, if_neg h1]
  by_cases h2 : m = 2
  · rw [if_pos h2, if_pos h2, rscreen_of hx hy]; rfl
  rw [if_neg h2, if_neg h2]
  by_cases h3 : m = 3
  · rw [if_pos h3, if_pos h3, rhard_of hy hx]; rfl
  rw [if_neg h3, if_neg h3]
  by_cases h4 : m = 4
  · rw [if_pos h4, if_pos h4]
  rw [if_neg h4, if_neg h4]
  by_cases h5 : m = 5
  · rw [if_pos h5, if_pos h5]
  rw [if_neg h5, if_neg h5]
  by_cases h6 : m = 6
  · rw [if_pos h6, if_pos h6, rdodge_of hx hy]; rfl
  rw [if_neg h6, if_neg h6]
  by_cases h7 : m = 7
  · rw [if_pos h7, if_pos h7, rburn_of hx hy]; rfl
  rw [if_neg h7, if_neg h7]
  by_cases h8 : m = 8
  · rw [if_pos h8, if_pos h8, rhard_of hx hy]; rfl
  rw [if_neg h8, if_neg h8]
  by_cases h9 : m = 9
  · obtain ⟨g1, g2, g3, g4⟩ := soft_bd hx hy
    rw [if_pos h9, if_pos h9, w64 (n := 2 * y) (by omega) (by omega), w64 (n := 65535 - 2 * y) (by omega) (by omega), w64 (n := (65535 - 2 * y) * x) (by omega) (by omega), w64 (n := 2 * y * 65535) (by omega) (by omega), w64 (n := (65535 - 2 * y) * x + 2 * y * 65535) (by omega) (by omega), w64 (n := x * ((65535 - 2 * y) * x + 2 * y * 65535)) (by omega) (by omega), rdiv_f k (by omega) (by omega) (by omega) (by omega)]
    rfl
  rw [if_neg h9, if_neg h9]
  by_cases h10 : m = 10
  · rw [if_pos h10, if_pos h10]
    unfold mx mn
    rw [w64 (by split <;> split <;> omega) (by split <;> split <;> omega)]
  rw [if_neg h10, if_neg h10]
  by_cases h11 : m = 11
  · obtain ⟨g1, g2, g3, g4⟩ := excl_bd hx hy
    rw [if_pos h11, if_pos h11, w64 (n := 2 * x) (by omega) (by omega), w64 (n := 2 * x * y) (by omega) (by omega), rdiv_f k (by omega) (by omega) (by omega) (by omega), Option.bind_some, w64 (n := x + y) (by omega) (by omega), w64 (by omega) (by omega)]
    rfl
  rw [if_neg h11, if_neg h11]
  by_cases h12 : m = 12
  · rw [if_pos h12, if_pos h12, w64 (by omega) (by omega)]; rfl
  rw [if_neg h12, if_neg h12]
  by_cases h13 : m = 13
  · rw [if_pos h13, if_pos h13, w64 (by omega) (by omega)]; rfl
  rw [if_neg h13, if_neg h13]

end Go.Proofs.Ytnijapaaickifaa.Num
