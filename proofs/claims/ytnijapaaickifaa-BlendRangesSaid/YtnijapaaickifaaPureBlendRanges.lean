/-
  The results of blending are valid pixels. No conditions.
-/
import Derived.Test.YtnijapaaickifaaQ31
import Derived.Test.YtnijapaaickifaaOv
import Derived.Test.YtnijapaaickifaaExample
namespace Go.Proofs.Ytnijapaaickifaa.Pure
open Go.RowKit Go.Proofs.YtnijapaaickifaaW.PrintWords Go.Proofs.YtnijapaaickifaaW.PrintLast Go.Proofs.Ytnijapaaickifaa.Q Go.Proofs.Ytnijapaaickifaa.Num

theorem rvalid_f {a b c d : Int} (ha : 0 ≤ a ∧ a ≤ 65535) (hb : 0 ≤ b ∧ b ≤ 65535) (hc : 0 ≤ c ∧ c ≤ 65535) (hd : 0 ≤ d ∧ d ≤ 65535) : imageeditorref06_Valid.f a b c d = some true := by
  unfold imageeditorref06_Valid.f
  rw [rlimit_f, un_of ha.1 ha.2, un_of hb.1 hb.2, un_of hc.1 hc.2, un_of hd.1 hd.2]
  simp
theorem channel_is (m a b : Int) : blend_Channel.f m a b = some (ch m (un a) (un b)) := by
  have e : ∀ x, blend_unit.f x = some (un x) := fun _ => rfl
  unfold blend_Channel.f
  rw [e, e, Option.bind_some, Option.bind_some, chan_f (un_bd a) (un_bd b)]
  rfl
section
variable {a b c d a' b' c' d' : Int} (ha : 0 ≤ a ∧ a ≤ 65535) (hb : 0 ≤ b ∧ b ≤ 65535) (hc : 0 ≤ c ∧ c ≤ 65535) (hd : 0 ≤ d ∧ d ≤ 65535) (ha' : 0 ≤ a' ∧ a' ≤ 65535) (hb' : 0 ≤ b' ∧ b' ≤ 65535) (hc' : 0 ≤ c' ∧ c' ≤ 65535) (hd' : 0 ≤ d' ∧ d' ≤ 65535)
include ha hb hc hd ha' hb' hc' hd'
theorem ov_bd (m : Int) : (0 ≤ (ov m a b c d a' b' c' d').1 ∧ (ov m a b c d a' b' c' d').1 ≤ 65535) ∧ (0 ≤ (ov m a b c d a' b' c' d').2.1 ∧ (ov m a b c d a' b' c' d').2.1 ≤ 65535) ∧ (0 ≤ (ov m a b c d a' b' c' d').2.2.1 ∧ (ov m a b c d a' b' c' d').2.2.1 ≤ 65535) ∧ (0 ≤ (ov m a b c d a' b' c' d').2.2.2 ∧ (ov m a b c d a' b' c' d').2.2.2 ≤ 65535) ∧ ((ov m a b c d a' b' c' d').2.2.2 > 0 ∨ ov m a b c d a' b' c' d' = (0, 0, 0, 0)) := by
  have hk := col_bd ha hb hc ha' hb' hc' m
  have hq := alpha_bd hd' hd
  unfold ov
  by_cases h : den d' d = 0
  · rw [if_pos h]
    exact ⟨by simp, by simp, by simp, by simp, .inr rfl⟩
  · rw [if_neg h]
    refine ⟨part_bd hd' hd ha ha' hk.1 h, part_bd hd' hd hb hb' hk.2.1 h, part_bd hd' hd hc hc' hk.2.2.1 h, ⟨hq.1, hq.2.1⟩, .inl ?_⟩
    have := hq.2.2 h
    show rd2 (den d' d) 65535 > 0
    omega
end
theorem BlendRanges (m a b c d a' b' c' d' : Int) : ∃ k, imageeditorlaw10_BlendRanges.f k m a b c d a' b' c' d' = some true := by
  have hk := col_bd (un_bd a) (un_bd b) (un_bd c) (un_bd a') (un_bd b') (un_bd c') m
  have ho := ov_bd (un_bd a) (un_bd b) (un_bd c) (un_bd d) (un_bd a') (un_bd b') (un_bd c') (un_bd d') m
  have hc := ch_bd m (un_bd a) (un_bd a')
  refine ⟨0 + 30, ?_⟩
  unfold imageeditorlaw10_BlendRanges.f
  rw [channel_is, colors_f 27, over_f 27, example_of 0]
  simp only [Option.bind_some]
  rw [if_pos hc.1, if_pos hc.2, rvalid_f hk.1 hk.2.1 hk.2.2.1 (by rw [hk.2.2.2]; omega), Option.bind_some, if_pos rfl, if_pos hk.2.2.2, rvalid_f ho.1 ho.2.1 ho.2.2.1 ho.2.2.2.1, Option.bind_some, if_pos rfl]
  rcases ho.2.2.2.2 with h | h
  · rw [if_pos h]
  · rw [h, if_neg (by simp), if_pos (by simp)]
end Go.Proofs.Ytnijapaaickifaa.Pure
