/-
  What is printed is parsed up to the precision of 8 bits, 8-bit values are kept, and what was parsed prints as before, as numbers. No conditions.
-/
import Derived.Test.YtmklcmobahgeeaaQ25
import Derived.Test.YtmklcmobahgeeaaRef
import Derived.Test.YtmklcmobahgeeaaText
import Derived.Test.YtmklcmobahgeeaaAwake
namespace Go.Proofs.Ytmklcmobahgeeaa.Pure
open Go.RowKit Go.Proofs.YtmklcmobahgeeaaW.PrintWords Go.Proofs.Ytmklcmobahgeeaa.Q Go.Proofs.Ytmklcmobahgeeaa.Num

theorem near_f {x y : Int} (_ : 0 ≤ x ∧ x ≤ 65535) (_ : 0 ≤ y ∧ y ≤ 65535) (h : x - y ≤ 128) (h' : y - x ≤ 128) : imageeditorlaw06_near.f x y 128 = some true := by
  unfold imageeditorlaw06_near.f
  rw [w64 (by omega) (by omega), w64 (by omega) (by omega), if_pos h, decide_eq_true h']
/-- A channel's printed value is near. -/
theorem back_near (x : Int) : imageeditorlaw06_near.f (un x) (257 * rd2 (un x) 257) 128 = some true := by
  have h := to8_bd x
  have hn := rd2_near (a := un x) (b := 257) (by omega)
  exact near_f (un_bd x) (by omega) (by omega) (by omega)
theorem back_same {v : Int} (h : 0 ≤ v) (h' : v ≤ 255) : rd2 (un (257 * v)) 257 = v := by
  rw [un_of (by omega) (by omega), Int.mul_comm]
  exact rd2_mul v (by omega)
theorem again (x : Int) : rd2 (un (257 * rd2 (un x) 257)) 257 = rd2 (un x) 257 := back_same (to8_bd x).1 (to8_bd x).2
theorem printed_again (a b c d : Int) : printed (257 * rd2 (un a) 257) (257 * rd2 (un b) 257) (257 * rd2 (un c) 257) (257 * rd2 (un d) 257) = printed a b c d := by
  simp only [printed, hi, lo, again]
theorem PixelNotation (a b c d v : Int) (hv : (Lit.int .u8 v).wf = true) : ∃ k, imageeditorlaw06_PixelNotation.f k a b c d v = some true := by
  have v0 : 0 ≤ v ∧ v ≤ 255 := by
    simp [Lit.wf, IntKind.min, IntKind.max, IntKind.bits, IntKind.signed] at hv
    omega
  have ha := to8_bd a
  have hb := to8_bd b
  have hc := to8_bd c
  have hd := to8_bd d
  refine ⟨0 + 31, ?_⟩
  unfold imageeditorlaw06_PixelNotation.f
  rw [print_f 25, Option.bind_some, parse_printed 19, Option.bind_some, if_pos (by rw [printed_size]; rfl), if_pos rfl]
  simp only []
  rw [print_f 25, Option.bind_some, printed_again, if_pos rfl, w64 (by omega) (by omega), from8_f, Option.bind_some, to8_f 30, Option.bind_some, u8_of v0.1 v0.2, back_same v0.1 v0.2]
  simp only [imageeditorlaw06_PixelNotation.j0]
  rw [if_neg (by simp), rlimit_f]
  simp only [Option.bind_some, back_near, valid_f]
  rw [if_pos trivial, if_pos trivial, if_pos trivial, if_pos trivial, if_pos, awake_of 0]
  · rfl
  · rw [un_of (x := 257 * rd2 (un a) 257) (by omega) (by omega), un_of (x := 257 * rd2 (un b) 257) (by omega) (by omega), un_of (x := 257 * rd2 (un c) 257) (by omega) (by omega), un_of (x := 257 * rd2 (un d) 257) (by omega) (by omega)]
    simp
end Go.Proofs.Ytmklcmobahgeeaa.Pure
