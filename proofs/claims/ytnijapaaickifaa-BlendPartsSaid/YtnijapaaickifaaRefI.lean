/-
  The reference's quotient and limits come to the same numbers. Plain facts on integers, no conditions beside those written.
-/
import Derived.Test.YtnijapaaickifaaI16
import Derived.Test.YtnijapaaickifaaNumI
namespace Go.Proofs.Ytnijapaaickifaa.Num
open Go.RowKit Go.Proofs.YtnijapaaickifaaW.PrintWords Go.Proofs.YtnijapaaickifaaW.PrintLast Go.Proofs.Ytnijapaaickifaa.I

theorem rfloor_pos (k : Nat) {a b : Int} (hb : 0 < b) (ha : -4611686018427387904 ≤ a) (ha' : a ≤ 4611686018427387904) : imageeditorref01_Floor.f (k + 1) a b = some (a / b) := by
  have hlo : -4611686018427387904 ≤ a / b ∧ a / b ≤ 4611686018427387904 := by
    constructor
    · exact Int.le_ediv_of_mul_le hb (by
        have : (-4611686018427387904 : Int) * b ≤ -4611686018427387904 * 1 := Int.mul_le_mul_of_nonpos_left (by omega) (by omega)
        omega)
    · by_cases h : 0 ≤ a
      · exact Int.le_trans (Int.ediv_le_self _ h) ha'
      · have := Int.ediv_neg_of_neg_of_pos (a := a) (b := b) (by omega) hb; omega
  unfold imageeditorref01_Floor.f
  rw [if_neg (by omega), if_neg (by omega)]
  simp only [imageeditorref01_Floor.j0]
  rw [if_neg (by simp), if_neg (by omega)]
  have hd : b ∣ a ↔ Int.tmod a b = 0 := Int.dvd_iff_tmod_eq_zero
  by_cases h : Int.tmod a b = 0
  · rw [if_pos h]
    have : a.tdiv b = a / b := Int.tdiv_eq_ediv_of_dvd (hd.2 h)
    rw [this, w64 (by omega) (by omega)]
  · rw [if_neg h]
    by_cases h0 : 0 ≤ a
    · have h5 : 0 ≤ Int.tmod a b := by rw [Int.tmod_eq_emod_of_nonneg h0]; exact Int.emod_nonneg a (Int.ne_of_gt hb)
      rw [if_neg (by simp; omega), Int.tdiv_eq_ediv_of_nonneg h0, w64 (by omega) (by omega)]
    · have h5 : Int.tmod a b < 0 := by
        have e : Int.tmod a b = -((-a) % b) := by
          have := Int.neg_tmod (-a) b
          rw [Int.neg_neg] at this
          rw [this, Int.tmod_eq_emod_of_nonneg (by omega)]
        have := Int.emod_nonneg (-a) (Int.ne_of_gt hb)
        omega
      rw [if_pos (by simp; omega)]
      have e : a.tdiv b = a / b + 1 := by
        rw [Int.tdiv_eq_ediv, if_neg (by intro hh; rcases hh with hh | hh; exact h0 hh; exact h (hd.1 hh)), Int.sign_eq_one_of_pos hb]
      rw [e, w64 (n := a / b + 1) (by omega) (by omega), w64 (by omega) (by omega)]
      congr 1; omega

theorem abs_f {a : Int} (h : 0 ≤ a) (h' : a ≤ 9223372036854775807) : imageeditorref01_Abs.f a = some a := by
  unfold imageeditorref01_Abs.f
  rw [if_neg (by omega), Go.IntWalk.u64_in _ (by omega)]

theorem rdiv_f (k : Nat) {a b : Int} (hb : 0 < b) (hb' : b ≤ 4611686018427387904) (ha : -4611686018427387904 ≤ a) (ha' : a ≤ 4611686018427387904) : imageeditorref01_Div.f (k + 1) a b = some (rd2 a b) := by
  have h1 := Int.emod_add_mul_ediv a b
  have h2 := Int.emod_nonneg a (Int.ne_of_gt hb)
  have h3 := Int.emod_lt_of_pos a hb
  have hlo : -4611686018427387904 ≤ a / b ∧ a / b ≤ 4611686018427387904 := by
    constructor
    · exact Int.le_ediv_of_mul_le hb (by
        have : (-4611686018427387904 : Int) * b ≤ -4611686018427387904 * 1 := Int.mul_le_mul_of_nonpos_left (by omega) (by omega)
        omega)
    · by_cases h : 0 ≤ a
      · exact Int.le_trans (Int.ediv_le_self _ h) ha'
      · have := Int.ediv_neg_of_neg_of_pos (a := a) (b := b) (by omega) hb; omega
  unfold imageeditorref01_Div.f
  rw [if_neg (by omega), rfloor_pos k hb ha ha', Option.bind_some, if_neg (by omega), rd2_eq hb]
  simp only [imageeditorref01_Div.j0]
  rw [if_neg (by simp)]
  have e1 : b * (a / b) = a - a % b := by omega
  rw [e1, w64 (n := a - a % b) (by omega) (by omega), show a - (a - a % b) = a % b from by omega, w64 (n := a % b) (by omega) (by omega), abs_f (a := a % b) (by omega) (by omega), Option.bind_some, abs_f (a := b) (by omega) (by omega), Option.bind_some, Go.IntWalk.u64_in _ (by omega)]
  by_cases h : b - a % b ≤ a % b
  · rw [if_pos h, if_pos h, w64 (by omega) (by omega)]
  · rw [if_neg h, if_neg h]
theorem rdiv_zero (k : Nat) (a : Int) : imageeditorref01_Div.f k a 0 = some 0 := by
  simp [imageeditorref01_Div.f]

theorem rU_f (x : Int) : imageeditorref06_U.f x = some (un x) := rfl
theorem rlimit_f (a b c d : Int) : imageeditorref06_Limit.f a b c d = some (un a, un b, un c, un d) := rfl

end Go.Proofs.Ytnijapaaickifaa.Num
