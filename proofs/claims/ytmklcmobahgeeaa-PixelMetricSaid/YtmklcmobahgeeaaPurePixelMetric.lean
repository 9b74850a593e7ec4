/-
  Dist is a metric of limited pixels, Luma does not fall where a channel rises and is the value of a gray pixel, as numbers. No conditions.
-/
import Derived.Test.YtmklcmobahgeeaaQ21
import Derived.Test.YtmklcmobahgeeaaQ24
import Derived.Test.YtmklcmobahgeeaaRef
import Derived.Test.YtmklcmobahgeeaaFun
import Derived.Test.YtmklcmobahgeeaaAwake
namespace Go.Proofs.Ytmklcmobahgeeaa.Pure
open Go.RowKit Go.Proofs.YtmklcmobahgeeaaW.PrintWords Go.Proofs.Ytmklcmobahgeeaa.Q Go.Proofs.Ytmklcmobahgeeaa.Num

theorem gap_comm (x y : Int) : gap x y = gap y x := by unfold gap mx; split <;> split <;> omega
theorem gap_tri (x y z : Int) : gap x z ≤ gap x y + gap y z := by unfold gap mx; split <;> split <;> split <;> omega
theorem gap_zero (x y : Int) : gap x y = 0 ↔ un x = un y := by unfold gap mx; split <;> omega
theorem mx_le {x y z : Int} : mx x y ≤ z ↔ x ≤ z ∧ y ≤ z := by unfold mx; split <;> omega
theorem le_mx (x y : Int) : x ≤ mx x y ∧ y ≤ mx x y := by unfold mx; split <;> omega
theorem dist_le {a b c d a' b' c' d' n : Int} : dist a b c d a' b' c' d' ≤ n ↔ ((gap a a' ≤ n ∧ gap b b' ≤ n) ∧ gap c c' ≤ n) ∧ gap d d' ≤ n := by
  unfold dist; rw [mx_le, mx_le, mx_le]
theorem dist_ge (a b c d a' b' c' d' : Int) : ((gap a a' ≤ dist a b c d a' b' c' d' ∧ gap b b' ≤ dist a b c d a' b' c' d') ∧ gap c c' ≤ dist a b c d a' b' c' d') ∧ gap d d' ≤ dist a b c d a' b' c' d' := dist_le.1 (Int.le_refl _)
theorem dist_bd (a b c d a' b' c' d' : Int) : 0 ≤ dist a b c d a' b' c' d' ∧ dist a b c d a' b' c' d' ≤ 65535 :=
  ⟨Int.le_trans (gap_bd a a').1 (dist_ge a b c d a' b' c' d').1.1.1, dist_le.2 ⟨⟨⟨(gap_bd _ _).2, (gap_bd _ _).2⟩, (gap_bd _ _).2⟩, (gap_bd _ _).2⟩⟩
theorem greater_f (x y : Int) : imageeditorlaw06_greater.f x y = some (mx x y) := by
  unfold imageeditorlaw06_greater.f mx
  by_cases h : x > y
  · rw [if_pos h, if_neg (by omega)]
  · rw [if_neg h]
    by_cases h' : x < y
    · rw [if_pos h']
    · rw [if_neg h']; congr 1; omega
set_option maxHeartbeats 1000000 in
theorem PixelMetric (a b c d a' b' c' d' a'' b'' c'' d'' : Int) : ∃ k, imageeditorlaw06_PixelMetric.f k a b c d a' b' c' d' a'' b'' c'' d'' = some true := by
  refine ⟨29 + 1, ?_⟩
  have x1 := dist_bd a b c d a' b' c' d'
  have x2 := dist_bd a' b' c' d' a'' b'' c'' d''
  have x3 := dist_bd a b c d a'' b'' c'' d''
  have tri : dist a b c d a'' b'' c'' d'' ≤ dist a b c d a' b' c' d' + dist a' b' c' d' a'' b'' c'' d'' := by
    have g := dist_ge a b c d a' b' c' d'
    have g' := dist_ge a' b' c' d' a'' b'' c'' d''
    have h1 := gap_tri a a' a''
    have h2 := gap_tri b b' b''
    have h3 := gap_tri c c' c''
    have h4 := gap_tri d d' d''
    exact dist_le.2 ⟨⟨⟨by omega, by omega⟩, by omega⟩, by omega⟩
  have sym : dist a' b' c' d' a b c d = dist a b c d a' b' c' d' := by
    unfold dist; rw [gap_comm a', gap_comm b', gap_comm c', gap_comm d']
  have zero : ((dist a b c d a' b' c' d' == 0) != (un a == un a' && (un b == un b' && (un c == un c' && un d == un d')))) = false := by
    have g := dist_ge a b c d a' b' c' d'
    have z1 := gap_zero a a'
    have z2 := gap_zero b b'
    have z3 := gap_zero c c'
    have z4 := gap_zero d d'
    have p1 := gap_bd a a'
    have p2 := gap_bd b b'
    have p3 := gap_bd c c'
    have p4 := gap_bd d d'
    have key : dist a b c d a' b' c' d' = 0 ↔ (un a = un a' ∧ (un b = un b' ∧ (un c = un c' ∧ un d = un d'))) := by
      rw [← z1, ← z2, ← z3, ← z4]
      constructor
      · intro h; omega
      · rintro ⟨h1, h2, h3, h4⟩
        have : dist a b c d a' b' c' d' ≤ 0 := dist_le.2 ⟨⟨⟨by omega, by omega⟩, by omega⟩, by omega⟩
        omega
    rw [bne_eq_false_iff_eq, Bool.eq_iff_iff]
    simpa using key
  have l1 := un_bd a
  have l2 := un_bd b
  have l3 := un_bd c
  have l1' := un_bd a'
  have l2' := un_bd b'
  have l3' := un_bd c'
  have m1 := le_mx (un a) (un a')
  have m2 := le_mx (un b) (un b')
  have m3 := le_mx (un c) (un c')
  have u1 : un (mx (un a) (un a')) = mx (un a) (un a') := un_of (by omega) (mx_le.2 ⟨l1.2, l1'.2⟩)
  have u2 : un (mx (un b) (un b')) = mx (un b) (un b') := un_of (by omega) (mx_le.2 ⟨l2.2, l2'.2⟩)
  have u3 : un (mx (un c) (un c')) = mx (un c) (un c') := un_of (by omega) (mx_le.2 ⟨l3.2, l3'.2⟩)
  have up1 : rd2 (13933 * un a + 46871 * un b + 4731 * un c) 65535 ≤ rd2 (13933 * mx (un a) (un a') + 46871 * mx (un b) (un b') + 4731 * mx (un c) (un c')) 65535 := rd2_mono (by omega) (by omega)
  have up2 : rd2 (13933 * un a' + 46871 * un b' + 4731 * un c') 65535 ≤ rd2 (13933 * mx (un a) (un a') + 46871 * mx (un b) (un b') + 4731 * mx (un c) (un c')) 65535 := rd2_mono (by omega) (by omega)
  have gray : rd2 (13933 * un a + 46871 * un a + 4731 * un a) 65535 = un a := by
    rw [show 13933 * un a + 46871 * un a + 4731 * un a = un a * 65535 from by omega]
    exact rd2_mul _ (by omega)
  unfold imageeditorlaw06_PixelMetric.f
  rw [dist_f, dist_f, dist_f, dist_f, sym, rlimit_f, rlimit_f]
  simp only [Option.bind_some]
  rw [if_neg (by omega), if_neg (by omega), if_neg (by omega), if_neg (by omega), if_neg (by omega), if_neg (by rw [w64 (by omega) (by omega)]; omega), if_pos trivial, zero, if_neg (by simp)]
  simp only [greater_f, Option.bind_some, luma_f, un_un, u1, u2, u3, gray]
  rw [if_pos up1, if_pos up2, if_pos trivial, awake_of 0]
  rfl
end Go.Proofs.Ytmklcmobahgeeaa.Pure
