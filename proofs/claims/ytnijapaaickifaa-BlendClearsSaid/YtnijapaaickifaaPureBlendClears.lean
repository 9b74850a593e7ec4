/-
  A clear source leaves the backdrop, a source over a clear backdrop stays, and an opaque one covers with the normal mode. No conditions.
-/
import Derived.Test.YtnijapaaickifaaQ32
import Derived.Test.YtnijapaaickifaaOv
import Derived.Test.YtnijapaaickifaaExample
namespace Go.Proofs.Ytnijapaaickifaa.Pure
open Go.RowKit Go.Proofs.YtnijapaaickifaaW.PrintWords Go.Proofs.YtnijapaaickifaaW.PrintLast Go.Proofs.Ytnijapaaickifaa.Q Go.Proofs.Ytnijapaaickifaa.Num

theorem one_none {d : Int} (h : 0 < d) (x y z : Int) : rd2 (nom x y z 0 d) (65535 * d) = x := by
  have e : nom x y z 0 d = x * (65535 * d) := by
    unfold nom
    rw [Int.mul_zero, Int.mul_zero, Int.zero_mul, Int.zero_mul, Int.sub_zero, Int.mul_assoc, Int.mul_comm d 65535]; omega
  rw [e]; exact rd2_mul x (by omega)
theorem ov_none {d : Int} (h : 0 < d) (m x y z x' y' z' : Int) : ov m x y z d x' y' z' 0 = (x, y, z, d) := by
  have e : den 0 d = 65535 * d := by unfold den; rw [Int.zero_mul, Int.zero_add]; omega
  unfold ov
  rw [e, if_neg (by omega), one_none h, one_none h, one_none h, Int.mul_comm 65535 d, rd2_mul d (by omega)]
theorem ov_clear (m x y z x' y' z' : Int) : ov m x y z 0 x' y' z' 0 = (0, 0, 0, 0) := rfl
theorem one_clear {s : Int} (h : 0 < s) (x y z : Int) : rd2 (nom x y z s 0) (65535 * s) = y := by
  have e : nom x y z s 0 = y * (65535 * s) := by
    unfold nom
    rw [Int.mul_zero, Int.mul_zero, Int.zero_mul, Int.sub_zero, Int.mul_assoc, Int.mul_comm s 65535]; omega
  rw [e]; exact rd2_mul y (by omega)
theorem ov_back {s : Int} (h : 0 < s) (m x y z x' y' z' : Int) : ov m x y z 0 x' y' z' s = (x', y', z', s) := by
  have e : den s 0 = 65535 * s := by unfold den; rw [Int.mul_zero, Int.add_zero]; omega
  unfold ov
  rw [e, if_neg (by omega), one_clear h, one_clear h, one_clear h, Int.mul_comm 65535 s, rd2_mul s (by omega)]
theorem one_all (d x y : Int) : rd2 (nom x y y 65535 d) 4294836225 = y := by
  have e : nom x y y 65535 d = y * 4294836225 := by
    unfold nom
    rw [show (65535 : Int) - 65535 = 0 from rfl, Int.mul_zero, Int.mul_sub]
    have : y * 65535 * d = 65535 * (y * d) := by rw [Int.mul_assoc, Int.mul_left_comm]
    omega
  rw [e]; exact rd2_mul y (by omega)
theorem ov_all (x y z d x' y' z' : Int) : ov 0 x y z d x' y' z' 65535 = (x', y', z', 65535) := by
  have e : den 65535 d = 4294836225 := by unfold den; omega
  have c : col 0 x y z x' y' z' = (x', y', z', 65535) := by simp [col, ch]
  unfold ov
  rw [e, if_neg (by omega), c, one_all, one_all, one_all, show (4294836225 : Int) = 65535 * 65535 from rfl, rd2_mul 65535 (by omega)]
theorem last (k : Nat) (x y z d x' y' z' : Int) (hx : x = un x) (hy : y = un y) (hz : z = un z) (hd : d = un d) (hx' : x' = un x') (hy' : y' = un y') (hz' : z' = un z') : imageeditorlaw10_BlendClears.j1 (k + 31) false x y z d x' y' z' 65535 = some true := by
  simp only [imageeditorlaw10_BlendClears.j1]
  rw [if_neg (by simp), over_f (k + 27), ← hx, ← hy, ← hz, ← hd, ← hx', ← hy', ← hz', un_of (x := 65535) (by omega) (by omega), ov_all, Option.bind_some, example_of k]
  simp
theorem middle (k : Nat) (m x y z d x' y' z' d' : Int) (hx : x = un x) (hy : y = un y) (hz : z = un z) (hd : d = un d) (hx' : x' = un x') (hy' : y' = un y') (hz' : z' = un z') (hd' : d' = un d') : imageeditorlaw10_BlendClears.j0 (k + 32) m false x y z d x' y' z' d' x' y' z' 65535 = some true := by
  simp only [imageeditorlaw10_BlendClears.j0]
  rw [if_neg (by simp)]
  by_cases h : d' > 0
  · rw [if_pos h, over_f (k + 28), ← hx, ← hx', ← hy', ← hz', ← hd', un_of (x := 0) (by omega) (by omega), ov_back h, Option.bind_some]
    simp only [beq_self_eq_true, Bool.not_true, Bool.or_false]
    exact last k x y z d x' y' z' hx hy hz hd hx' hy' hz'
  · rw [if_neg h]
    exact last k x y z d x' y' z' hx hy hz hd hx' hy' hz'
theorem BlendClears (m a b c d a' b' c' d' : Int) : ∃ k, imageeditorlaw10_BlendClears.f k m a b c d a' b' c' d' = some true := by
  refine ⟨0 + 32, ?_⟩
  unfold imageeditorlaw10_BlendClears.f
  rw [rlimit_f, rlimit_f]
  simp only [Option.bind_some]
  have ha := (un_un a).symm
  have hb := (un_un b).symm
  have hc := (un_un c).symm
  have hd := (un_un d).symm
  have ha' := (un_un a').symm
  have hb' := (un_un b').symm
  have hc' := (un_un c').symm
  have hd' := (un_un d').symm
  generalize un a = x at *
  generalize un b = y at *
  generalize un c = z at *
  generalize un d = e at *
  generalize un a' = x' at *
  generalize un b' = y' at *
  generalize un c' = z' at *
  generalize un d' = e' at *
  have g := middle 0 m x y z e x' y' z' e' ha hb hc hd ha' hb' hc' hd'
  by_cases h : e > 0
  · rw [if_pos h, over_f 29, ← ha, ← hb, ← hc, ← hd, ← ha', ← hb', ← hc', un_of (x := 0) (by omega) (by omega), ov_none h, Option.bind_some]
    simp only [beq_self_eq_true, Bool.not_true, Bool.or_false]
    exact g
  · rw [if_neg h]
    split
    · rename_i hq
      simp only [Bool.and_eq_true, beq_iff_eq] at hq
      obtain ⟨q1, q2, q3, q4⟩ := hq
      subst q1 q2 q3 q4
      rw [over_f 29, ← ha', ← hb', ← hc', un_of (x := 0) (by omega) (by omega), ov_clear, Option.bind_some]
      simp only [beq_self_eq_true, Bool.not_true, Bool.or_false]
      exact g
    · exact g
end Go.Proofs.Ytnijapaaickifaa.Pure
