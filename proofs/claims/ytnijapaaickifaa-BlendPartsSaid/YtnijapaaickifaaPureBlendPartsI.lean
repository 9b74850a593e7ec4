/-
  Each pixel of the composited image is that of the two pixels at its place. No conditions.
-/
import Derived.Test.YtnijapaaickifaaI18
import Derived.Test.YtnijapaaickifaaImgI
import Derived.Test.YtnijapaaickifaaExampleI
namespace Go.Proofs.Ytnijapaaickifaa.Pure
open Go.RowKit Go.Proofs.YtnijapaaickifaaW.PrintWords Go.Proofs.YtnijapaaickifaaW.PrintLast Go.Proofs.Ytnijapaaickifaa.I Go.Proofs.Ytnijapaaickifaa.Num

theorem out_ok {m x W H : Int} {A : List S32} {W' H' : Int} {B : List S32} {r s : Int} (hr : r = 0 → A.length ≤ 65536 ∧ (A.length : Int) = W * H) (hs : s = 0 → B.length ≤ 65536 ∧ (B.length : Int) = W' * H') (h : (out m x W H A W' H' B r s).2.2.2 = 0) :
    (out m x W H A W' H' B r s).2.2.1 = res m x A B 0 A.length ∧ B.length = A.length ∧ A.length ≤ 65536 := by
  unfold out at h ⊢
  by_cases h1 : 0 ≤ m ∧ m ≤ 17
  · rw [if_pos h1] at h ⊢
    by_cases h2 : 0 ≤ x ∧ x ≤ 65535
    · rw [if_pos h2] at h ⊢
      by_cases h3 : r = 0
      · rw [if_pos h3] at h ⊢
        by_cases h4 : s = 0
        · rw [if_pos h4] at h ⊢
          by_cases h5 : W = W' ∧ H = H'
          · rw [if_pos h5]
            have hA := hr h3
            have hB := hs h4
            rw [← h5.1, ← h5.2] at hB
            exact ⟨rfl, by omega, hA.1⟩
          · rw [if_neg h5] at h; exact absurd (show (15 : Int) = 0 from h) (by omega)
        · rw [if_neg h4] at h; exact absurd h h4
      · rw [if_neg h3] at h; exact absurd h h3
    · rw [if_neg h2] at h; exact absurd (show (2 : Int) = 0 from h) (by omega)
  · rw [if_neg h1] at h; exact absurd (show (8 : Int) = 0 from h) (by omega)
theorem parts_loop (m x W H W' H' U V : Int) (A B : List S32) (hA : A.length ≤ 65536) (hB : B.length = A.length) : ∀ (n k : Nat) (i : Nat), i + n = A.length → n + 40 < k → imageeditorlaw10_BlendParts.l0 k (i : Int) m x W H A W' H' B U V (res m x A B 0 A.length) = some true
  | n, 0, i, h, hk => by omega
  | 0, k + 1, i, h, hk => by
    have he : imageeditorlaw10_example.f k = some true := by
      obtain ⟨j, rfl⟩ : ∃ j, k = j + 30 := ⟨k - 30, by omega⟩
      exact example_of j
    have c : ¬ (i : Int) < ((res m x A B 0 A.length).length : Int) := by rw [res_len]; omega
    simp only [imageeditorlaw10_BlendParts.l0, if_neg c, he, Option.bind_some]
  | n + 1, k + 1, i, h, hk => by
    have ho := over_at (k := k) (by omega)
    have hf := rfade_at (k := k) (by omega)
    have c : (i : Int) < ((res m x A B 0 A.length).length : Int) := by rw [res_len]; omega
    have c1 : (i : Int) < (A.length : Int) := by omega
    have c2 : (i : Int) < (B.length : Int) := by omega
    have c0 : 0 ≤ (i : Int) := by omega
    have e : rd_T32 (res m x A B 0 A.length) (i : Int) = px m x (rd_T32 A i) (rd_T32 B i) := by
      have g := res_get m x A B A.length 0 i (by omega)
      rw [Nat.zero_add] at g
      exact g
    have z : ∀ q : Int × Int × Int × Int, ¬ ((!(q.1 == q.1) || (!(q.2.1 == q.2.1) || (!(q.2.2.1 == q.2.2.1) || (!(q.2.2.2 == q.2.2.2))))) = true) := by
      intro q
      simp
    simp only [imageeditorlaw10_BlendParts.l0, if_pos c, if_pos c0, if_pos c1, if_pos c2, hf, ho, Option.bind_some, e]
    refine (if_neg (z (px4 m x (rd_T32 A i) (rd_T32 B i)))).trans ?_
    rw [w64 (n := (i : Int) + 1) (by omega) (by omega), show ((i : Int) + 1) = ((i + 1 : Nat) : Int) from by omega]
    exact parts_loop m x W H W' H' U V A B hA hB n k (i + 1) (by omega) (by omega)
theorem BlendParts (m x W H : Int) (A : List S32) (W' H' : Int) (B : List S32) : ∃ k, imageeditorlaw10_BlendParts.f k m x W H A W' H' B = some true := by
  obtain ⟨j, hj⟩ : ∃ j : Nat, j = 70000 := ⟨_, rfl⟩
  obtain ⟨r, a1, _, a3⟩ := checks (j + 29) (j + 28) (by omega) (by omega) W H A
  obtain ⟨s, b1, _, b3⟩ := checks (j + 29) (j + 28) (by omega) (by omega) W' H' B
  have e1 := image_f (k := j + 27) (m := m) (x := x) (by omega) a3 b3 a1 b1
  have e2 := out_ok (m := m) (x := x) a3 b3
  generalize out m x W H A W' H' B r s = R at *
  refine ⟨j + 30, ?_⟩
  unfold imageeditorlaw10_BlendParts.f
  rw [e1, example_of j]
  simp only [Option.bind_some]
  by_cases h : R.2.2.2 = 0
  · obtain ⟨g1, g2, g3⟩ := e2 h
    rw [if_pos h, g1, if_pos (by rw [res_len]), show ((B.length : Int) != (A.length : Int)) = false from by rw [g2]; simp]
    simp only [imageeditorlaw10_BlendParts.j0, Bool.false_eq_true, if_false]
    exact parts_loop m x W H W' H' R.1 R.2.1 A B g3 g2 A.length (j + 29) 0 (by omega) (by omega)
  · rw [if_neg h]
end Go.Proofs.Ytnijapaaickifaa.Pure
