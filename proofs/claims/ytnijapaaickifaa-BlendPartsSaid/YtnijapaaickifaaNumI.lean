/-
  The numbers behind the pixels: what the program's and the reference's quotients, products and limits come to. Plain facts on integers, no conditions beside those written.
-/
import Derived.Test.YtnijapaaickifaaI2
namespace Go.Proofs.Ytnijapaaickifaa.Num
open Go.RowKit Go.Proofs.YtnijapaaickifaaW.PrintWords Go.Proofs.YtnijapaaickifaaW.PrintLast Go.Proofs.Ytnijapaaickifaa.I

/-- The quotient, rounded to the nearest integer, halves up. -/
def rd2 (a b : Int) : Int := (2 * a + b) / (2 * b)
/-- A number limited to a unit value. -/
def un (x : Int) : Int := mn 65535 (mx x 0)

theorem un_bd (x : Int) : 0 ≤ un x ∧ un x ≤ 65535 := by unfold un mn mx; split <;> split <;> omega
theorem un_of {x : Int} (h : 0 ≤ x) (h' : x ≤ 65535) : un x = x := by unfold un mn mx; split <;> split <;> omega
theorem un_un (x : Int) : un (un x) = un x := un_of (un_bd x).1 (un_bd x).2
theorem un_mn {q : Int} (h : 0 ≤ q) : un q = mn 65535 q := by unfold un mx; rw [if_neg (by omega)]
theorem w64 {n : Int} (h : -9223372036854775808 ≤ n) (h' : n ≤ 9223372036854775807) : wrap64 n = n := Go.IntWalk.wrap64_in n ⟨h, h'⟩
theorem mul_bd {a b A B : Int} (ha : 0 ≤ a) (hA : a ≤ A) (hb : 0 ≤ b) (hB : b ≤ B) : 0 ≤ a * b ∧ a * b ≤ A * B :=
  ⟨Int.mul_nonneg ha hb, Int.mul_le_mul hA hB hb (Int.le_trans ha hA)⟩

theorem rd2_eq {a b : Int} (hb : 0 < b) : rd2 a b = if b - a % b ≤ a % b then a / b + 1 else a / b := by
  have h1 := Int.emod_add_mul_ediv a b
  have h2 := Int.emod_nonneg a (Int.ne_of_gt hb)
  have h3 := Int.emod_lt_of_pos a hb
  unfold rd2
  generalize a % b = r at *
  generalize a / b = q at *
  have e : 2 * a + b = (2 * r + b) + q * (2 * b) := by
    have : q * (2 * b) = 2 * (b * q) := by rw [Int.mul_left_comm, Int.mul_comm q b]
    omega
  rw [e, Int.add_mul_ediv_right _ _ (by omega)]
  split
  · rename_i h
    have : (2 * r + b) / (2 * b) = 1 := by
      apply Int.le_antisymm
      · have := Int.ediv_lt_of_lt_mul (a := 2 * r + b) (b := 2) (c := 2 * b) (by omega) (by omega); omega
      · exact Int.le_ediv_of_mul_le (by omega) (by omega)
    omega
  · rename_i h
    have : (2 * r + b) / (2 * b) = 0 := Int.ediv_eq_zero_of_lt (by omega) (by omega)
    omega

theorem floor_pos {a b : Int} (hb : 0 < b) (ha : -4611686018427387904 ≤ a) (ha' : a ≤ 4611686018427387904) : num_Floor.f a b = some (a / b) := by
  have hq : a / b = a.tdiv b ∧ 0 ≤ a ∨ a < 0 := by
    by_cases h : 0 ≤ a
    · exact .inl ⟨(Int.tdiv_eq_ediv_of_nonneg h).symm, h⟩
    · exact .inr (by omega)
  have hlo : -4611686018427387904 ≤ a / b ∧ a / b ≤ 4611686018427387904 := by
    constructor
    · exact Int.le_ediv_of_mul_le hb (by
        have : (-4611686018427387904 : Int) * b ≤ -4611686018427387904 * 1 := Int.mul_le_mul_of_nonpos_left (by omega) (by omega)
        omega)
    · by_cases h : 0 ≤ a
      · exact Int.le_trans (Int.ediv_le_self _ h) ha'
      · have := Int.ediv_neg_of_neg_of_pos (a := a) (b := b) (by omega) hb; omega
  unfold num_Floor.f
  rw [if_neg (by omega), if_neg (by omega)]
  have hd : b ∣ a ↔ Int.tmod a b = 0 := Int.dvd_iff_tmod_eq_zero
  by_cases h : Int.tmod a b = 0
  · rw [if_pos h]
    have : a.tdiv b = a / b := Int.tdiv_eq_ediv_of_dvd (hd.2 h)
    rw [this, w64 (by omega) (by omega)]
  · rw [if_neg h]
    by_cases h0 : 0 ≤ a
    · rw [if_neg (by simp; omega), Int.tdiv_eq_ediv_of_nonneg h0, w64 (by omega) (by omega)]
    · rw [if_pos (by simp; omega)]
      have e : a.tdiv b = a / b + 1 := by
        rw [Int.tdiv_eq_ediv, if_neg (by intro hh; rcases hh with hh | hh; exact h0 hh; exact h (hd.1 hh)), Int.sign_eq_one_of_pos hb]
      rw [e, w64 (n := a / b + 1) (by omega) (by omega), w64 (by omega) (by omega)]
      congr 1; omega

theorem div_f (k : Nat) {a b : Int} (hb : 0 < b) (hb' : b ≤ 4611686018427387904) (ha : -4611686018427387904 ≤ a) (ha' : a ≤ 4611686018427387904) : num_Div.f (k + 1) a b = some (rd2 a b) := by
  have h1 := Int.emod_add_mul_ediv a b
  have h2 := Int.emod_nonneg a (Int.ne_of_gt hb)
  have h3 := Int.emod_lt_of_pos a hb
  have hlo : -4611686018427387904 ≤ a / b ∧ a / b ≤ 4611686018427387904 := by
    constructor
    · exact Int.le_ediv_of_mul_le hb (by
        have : (-4611686018427387904 : Int) * b ≤ -4611686018427387904 * 1 := Int.mul_le_mul_of_nonpos_left (by omega) (by omega)
        omega)
    · by_cases h : 0 ≤ a
      · exact Int.le_trans (Int.ediv_le_self _ h) ha'
      · have := Int.ediv_neg_of_neg_of_pos (a := a) (b := b) (by omega) hb; omega
  unfold num_Div.f
  rw [floor_pos hb ha ha', Option.bind_some, if_neg (by omega), rd2_eq hb]
  have hf : (b == -1) = false := by rw [beq_eq_false_iff_ne]; omega
  rw [hf]
  simp only [num_Div.j0]
  rw [if_neg (by simp), if_pos hb]
  have e1 : a / b * b = a - a % b := by rw [Int.mul_comm]; omega
  rw [e1, w64 (n := a - a % b) (by omega) (by omega), show a - (a - a % b) = a % b from by omega, w64 (n := a % b) (by omega) (by omega), w64 (n := b - a % b) (by omega) (by omega)]
  by_cases h : b - a % b ≤ a % b
  · rw [if_pos h, if_pos h, w64 (by omega) (by omega)]
  · rw [if_neg h, if_neg h, if_neg (by omega)]

theorem div_zero (k : Nat) (a : Int) : num_Div.f (k + 1) a 0 = some 0 := by
  simp [num_Div.f, num_Floor.f, num_Div.j0]

theorem rd2_bd {a b : Int} (hb : 0 < b) (ha : 0 ≤ a) {c : Int} (hc : a ≤ c * b) : 0 ≤ rd2 a b ∧ rd2 a b ≤ c := by
  unfold rd2
  constructor
  · exact Int.ediv_nonneg (by omega) (by omega)
  · have : (2 * a + b) / (2 * b) < c + 1 := Int.ediv_lt_of_lt_mul (by omega) (by
      have : (c + 1) * (2 * b) = 2 * (c * b) + 2 * b := by rw [Int.add_mul, Int.one_mul, Int.mul_left_comm]
      omega)
    omega
/-- It is the number q whose multiple is nearest. -/
theorem rd2_near {a b : Int} (hb : 0 < b) : 2 * (rd2 a b * b) ≤ 2 * a + b ∧ 2 * a < 2 * (rd2 a b * b) + b := by
  have h1 := Int.emod_add_mul_ediv (2 * a + b) (2 * b)
  have h2 := Int.emod_nonneg (2 * a + b) (b := 2 * b) (by omega)
  have h3 := Int.emod_lt_of_pos (2 * a + b) (b := 2 * b) (by omega)
  unfold rd2
  have e : (2 * b) * ((2 * a + b) / (2 * b)) = 2 * ((2 * a + b) / (2 * b) * b) := by rw [Int.mul_assoc, Int.mul_comm b]
  omega
theorem rd2_unique {a b q : Int} (hb : 0 < b) (h1 : 2 * (q * b) ≤ 2 * a + b) (h2 : 2 * a < 2 * (q * b) + b) : rd2 a b = q := by
  obtain ⟨g1, g2⟩ := rd2_near (a := a) hb
  have l1 : rd2 a b ≤ q := by
    apply Int.le_of_lt_add_one
    apply Int.lt_of_mul_lt_mul_right (a := b) ?_ (Int.le_of_lt hb)
    rw [Int.add_mul, Int.one_mul]; omega
  have l2 : q ≤ rd2 a b := by
    apply Int.le_of_lt_add_one
    apply Int.lt_of_mul_lt_mul_right (a := b) ?_ (Int.le_of_lt hb)
    rw [Int.add_mul, Int.one_mul]; omega
  omega
theorem rd2_mul {b : Int} (q : Int) (hb : 0 < b) : rd2 (q * b) b = q := rd2_unique hb (by omega) (by omega)
theorem rd2_mono {a a' b : Int} (hb : 0 < b) (h : a ≤ a') : rd2 a b ≤ rd2 a' b := Int.ediv_le_ediv (by omega) (by omega)

/-! ### the functions of unit values -/
theorem clamp_un (x : Int) : num_Clamp.f x 0 65535 = some (un x) := rfl
theorem unit_f (x : Int) : pixel_unit.f x = some (un x) := rfl
theorem nunit_f (x : Int) : num_unit.f x = some (un x) := rfl
theorem limit_f (a b c d : Int) : pixel_Limit.f a b c d = some (un a, un b, un c, un d) := rfl
theorem mul_f (a b : Int) : num_Mul.f a b = some (rd2 (un a * un b) 65535) := by
  obtain ⟨a0, a1⟩ := un_bd a
  obtain ⟨b0, b1⟩ := un_bd b
  obtain ⟨p0, p1⟩ := mul_bd a0 a1 b0 b1
  have e : 2 * un a * un b = 2 * (un a * un b) := Int.mul_assoc ..
  unfold num_Mul.f rd2
  rw [nunit_f, nunit_f, Option.bind_some, Option.bind_some, w64 (n := 2 * un a) (by omega) (by omega), e, w64 (n := 2 * (un a * un b)) (by omega) (by omega), w64 (n := 2 * (un a * un b) + 65535) (by omega) (by omega), Int.tdiv_eq_ediv_of_nonneg (by omega), w64 (by omega) (by omega)]
  rfl
/-- The quotient of unit values. -/
def qu (a b : Int) : Int := if un b = 0 then 0 else mn 65535 (rd2 (un a * 65535) (un b))
theorem quo_f (a b : Int) : num_Quo.f a b = some (qu a b) := by
  obtain ⟨a0, a1⟩ := un_bd a
  obtain ⟨b0, b1⟩ := un_bd b
  unfold num_Quo.f qu rd2
  rw [nunit_f, nunit_f, Option.bind_some, Option.bind_some]
  by_cases h : un b = 0
  · rw [if_pos h, if_pos h]
  · rw [if_neg h, if_neg h, w64 (n := 2 * un b) (by omega) (by omega), if_neg (by omega), w64 (n := 2 * un a) (by omega) (by omega), w64 (n := 2 * un a * 65535) (by omega) (by omega), w64 (n := 2 * un a * 65535 + un b) (by omega) (by omega)]
    have e : 2 * un a * 65535 + un b = 2 * (un a * 65535) + un b := by omega
    have hq : 0 ≤ (2 * (un a * 65535) + un b) / (2 * un b) ∧ (2 * (un a * 65535) + un b) / (2 * un b) ≤ 2 * (un a * 65535) + un b := ⟨Int.ediv_nonneg (by omega) (by omega), Int.ediv_le_self _ (by omega)⟩
    rw [e, Int.tdiv_eq_ediv_of_nonneg (by omega), w64 (by omega) (by omega)]

end Go.Proofs.Ytnijapaaickifaa.Num
