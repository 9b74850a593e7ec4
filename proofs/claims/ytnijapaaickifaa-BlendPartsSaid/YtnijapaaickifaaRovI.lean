/-
  The reference's compositing of two pixels comes to the same numbers. Plain facts, no conditions beside those written.
-/
import Derived.Test.YtnijapaaickifaaI22
import Derived.Test.YtnijapaaickifaaOvI
namespace Go.Proofs.Ytnijapaaickifaa.Num
open Go.RowKit Go.Proofs.YtnijapaaickifaaW.PrintWords Go.Proofs.YtnijapaaickifaaW.PrintLast Go.Proofs.Ytnijapaaickifaa.I

section
variable {s b x y z : Int} (hs : 0 ≤ s ∧ s ≤ 65535) (hb : 0 ≤ b ∧ b ≤ 65535) (hx : 0 ≤ x ∧ x ≤ 65535) (hy : 0 ≤ y ∧ y ≤ 65535) (hz : 0 ≤ z ∧ z ≤ 65535)
include hs hb hx hy hz
theorem rpart_f (k : Nat) (h : den s b ≠ 0) : imageeditorref10_channel.f (k + 1) x y z b s (den s b) = some (rd2 (nom x y z s b) (den s b)) := by
  have d := den_bd hs hb
  have n := nom_bd hs hb hx hy hz
  unfold imageeditorref10_channel.f
  rw [nom_w hs hb hx hy hz, rdiv_f k (by omega) (by omega) (by omega) (by omega)]
  rfl
end
theorem rover_f (k : Nat) (m a b c d a' b' c' d' : Int) : imageeditorref10_Over.f (k + 4) m a b c d a' b' c' d' = some (ov m (un a) (un b) (un c) (un d) (un a') (un b') (un c') (un d')) := by
  have ha := un_bd a
  have hb := un_bd b
  have hc := un_bd c
  have hd := un_bd d
  have ha' := un_bd a'
  have hb' := un_bd b'
  have hc' := un_bd c'
  have hd' := un_bd d'
  unfold imageeditorref10_Over.f ov
  rw [rlimit_f, rlimit_f]
  simp only [Option.bind_some, den_w hd' hd, imageeditorref10_Over.j0]
  have hk := col_bd ha hb hc ha' hb' hc' m
  have hn := den_bd hd' hd
  have hq := alpha_bd hd' hd
  by_cases h : den (un d') (un d) = 0
  · rw [if_pos h, if_pos h]
    rfl
  · have e : (rd2 (den (un d') (un d)) 65535 == 0) = false := beq_eq_false_iff_ne.mpr (by have := hq.2.2 h; omega)
    rw [if_neg h, if_neg h, rdiv_f (k + 3) (by omega) (by omega) (by omega) (by omega), Option.bind_some, e, if_neg (by simp), rcolors_f]
    simp only [Option.bind_some, un_un]
    rw [rpart_f hd' hd ha ha' hk.1 (k + 2) h, rpart_f hd' hd hb hb' hk.2.1 (k + 2) h, rpart_f hd' hd hc hc' hk.2.2.1 (k + 2) h, rdiv_f (k + 2) (by omega) (by omega) (by omega) (by omega)]
    rfl
end Go.Proofs.Ytnijapaaickifaa.Num
