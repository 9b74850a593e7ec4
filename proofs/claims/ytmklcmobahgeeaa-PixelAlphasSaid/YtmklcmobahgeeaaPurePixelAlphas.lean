/-
  Valid, Limit, Pre, Straight and Fade come to the reference's answers, as numbers. No conditions.
-/
import Derived.Test.YtmklcmobahgeeaaQ12
import Derived.Test.YtmklcmobahgeeaaRef
import Derived.Test.YtmklcmobahgeeaaFun
import Derived.Test.YtmklcmobahgeeaaAwake
namespace Go.Proofs.Ytmklcmobahgeeaa.Pure
open Go.RowKit Go.Proofs.YtmklcmobahgeeaaW.PrintWords Go.Proofs.Ytmklcmobahgeeaa.Q Go.Proofs.Ytmklcmobahgeeaa.Num

theorem rvalid_f (a b c d : Int) : imageeditorref06_Valid.f a b c d = some (un a == a && (un b == b && (un c == c && un d == d))) := by
  unfold imageeditorref06_Valid.f; rw [rlimit_f]; rfl
theorem valid_same (a b c d : Int) : (a == un a && (b == un b && (c == un c && d == un d))) = (un a == a && (un b == b && (un c == c && un d == d))) := by
  have h : ∀ x y : Int, (x == y) = (y == x) := fun x y => by rw [Bool.eq_iff_iff]; simp only [beq_iff_eq]; exact eq_comm
  rw [h a, h b, h c, h d]

theorem rpre_f (k : Nat) (a b c d : Int) : imageeditorref06_Pre.f (k + 1) a b c d = some (rd2 (un a * un d) 65535, rd2 (un b * un d) 65535, rd2 (un c * un d) 65535, un d) := by
  have hp : ∀ x y : Int, imageeditorref01_Div.f (k + 1) (wrap64 (un x * un y)) 65535 = some (rd2 (un x * un y) 65535) := fun x y => by
    obtain ⟨p0, p1⟩ := mul_bd (un_bd x).1 (un_bd x).2 (un_bd y).1 (un_bd y).2
    rw [w64 (by omega) (by omega), rdiv_f k (by omega) (by omega) (by omega) (by omega)]
  unfold imageeditorref06_Pre.f
  rw [rlimit_f]
  simp only [Option.bind_some, hp]

theorem rstraight_f (k : Nat) (a b c d : Int) : imageeditorref06_Straight.f (k + 1) a b c d = if un d = 0 then some (0, 0, 0, 0) else some (qu (un a) (un d), qu (un b) (un d), qu (un c) (un d), un d) := by
  unfold imageeditorref06_Straight.f
  rw [rlimit_f, Option.bind_some]
  by_cases h : un d = 0
  · simp only [if_pos h]
  · have hq : ∀ x : Int, (imageeditorref01_Div.f (k + 1) (wrap64 (un x * 65535)) (un d)).bind (fun t => imageeditorref06_U.f t) = some (qu (un x) (un d)) := fun x => by
      obtain ⟨x0, x1⟩ := un_bd x
      obtain ⟨d0, d1⟩ := un_bd d
      have hd : 0 < un d := by omega
      rw [w64 (by omega) (by omega), rdiv_f k hd (by omega) (by omega) (by omega), Option.bind_some, rU_f]
      unfold qu
      rw [un_un, un_un, if_neg h]
      have hn : 0 ≤ rd2 (un x * 65535) (un d) := by unfold rd2; exact Int.ediv_nonneg (by omega) (by omega)
      exact congrArg some (un_mn hn)
    have e : ∀ (x : Int) (g : Int → Option (Int × Int × Int × Int)), ((imageeditorref01_Div.f (k + 1) (wrap64 (un x * 65535)) (un d)).bind fun t => (imageeditorref06_U.f t).bind g) = g (qu (un x) (un d)) := fun x g => by
      have := hq x
      rw [← Option.bind_assoc, this, Option.bind_some]
    simp only [if_neg h, e]

theorem rfade_f (k : Nat) (a b c d t : Int) : imageeditorref06_Fade.f (k + 1) a b c d t = if rd2 (un d * un t) 65535 = 0 then some (0, 0, 0, 0) else some (un a, un b, un c, rd2 (un d * un t) 65535) := by
  obtain ⟨p0, p1⟩ := mul_bd (un_bd d).1 (un_bd d).2 (un_bd t).1 (un_bd t).2
  unfold imageeditorref06_Fade.f
  rw [rlimit_f]
  simp only [Option.bind_some, rU_f]
  rw [w64 (by omega) (by omega), rdiv_f k (by omega) (by omega) (by omega) (by omega)]
  simp only [Option.bind_some]

theorem PixelAlphas (a b c d e : Int) : ∃ k, imageeditorlaw06_PixelAlphas.f k a b c d e = some true := by
  refine ⟨29 + 1, ?_⟩
  have s1 : ∃ x y z u, (if un d = 0 then some (0, 0, 0, 0) else some (qu (un a) (un d), qu (un b) (un d), qu (un c) (un d), un d)) = some (x, y, z, u) := by split <;> exact ⟨_, _, _, _, rfl⟩
  have s2 : ∃ x y z u, (if rd2 (un d * un e) 65535 = 0 then some (0, 0, 0, 0) else some (un a, un b, un c, rd2 (un d * un e) 65535)) = some (x, y, z, u) := by split <;> exact ⟨_, _, _, _, rfl⟩
  obtain ⟨x1, y1, z1, u1, s1⟩ := s1
  obtain ⟨x2, y2, z2, u2, s2⟩ := s2
  unfold imageeditorlaw06_PixelAlphas.f
  rw [valid_f, rvalid_f, valid_same, limit_f, rlimit_f, pre_f, rpre_f, straight_f, rstraight_f, fade_f, rfade_f, s1, s2, awake_of 0]
  simp
end Go.Proofs.Ytmklcmobahgeeaa.Pure
