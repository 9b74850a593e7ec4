/-
  Compositing of any two images comes to the reference's image or error. No conditions.
-/
import Derived.Test.YtnijapaaickifaaI24
import Derived.Test.YtnijapaaickifaaI26
import Derived.Test.YtnijapaaickifaaImgI
import Derived.Test.YtnijapaaickifaaExampleI
namespace Go.Proofs.Ytnijapaaickifaa.Pure
open Go.RowKit Go.Proofs.YtnijapaaickifaaW.PrintWords Go.Proofs.YtnijapaaickifaaW.PrintLast Go.Proofs.Ytnijapaaickifaa.I Go.Proofs.Ytnijapaaickifaa.Num

theorem rover_at {k : Nat} (h : 4 ≤ k) (m a b c d a' b' c' d' : Int) : imageeditorref10_Over.f k m a b c d a' b' c' d' = some (ov m (un a) (un b) (un c) (un d) (un a') (un b') (un c') (un d')) := by
  obtain ⟨j, rfl⟩ : ∃ j, k = j + 4 := ⟨k - 4, by omega⟩
  exact rover_f j m a b c d a' b' c' d'
theorem rdraws (m x W H : Int) (A B : List S32) (hA : A.length ≤ 65536) (hB : B.length = A.length) : ∀ (n k i : Nat) (done : List S32), i + n = A.length → n + 5 < k → done.length = i → imageeditorref10_Image.l0 k m x (i : Int) W H A W H B W H done = some (W, H, done ++ res m x A B i n, 0)
  | n, 0, i, done, h, hk, hd => by omega
  | 0, k + 1, i, done, h, hk, hd => by
    have c : ¬ (i : Int) < (A.length : Int) := by omega
    simp only [imageeditorref10_Image.l0, if_neg c, res, List.append_nil]
  | n + 1, k + 1, i, done, h, hk, hd => by
    have ho := rover_at (k := k) (by omega)
    have hf := rfade_at (k := k) (by omega)
    have c : (i : Int) < (A.length : Int) := by omega
    have c' : (i : Int) < (B.length : Int) := by omega
    have c0 : 0 ≤ (i : Int) := by omega
    have cl : done.length < 4398046511104 := by omega
    simp only [imageeditorref10_Image.l0, if_pos c, if_pos c', if_pos c0, if_pos cl, hf, ho, Option.bind_some]
    rw [w64 (n := (i : Int) + 1) (by omega) (by omega), show ((i : Int) + 1) = ((i + 1 : Nat) : Int) from by omega]
    refine (rdraws m x W H A B hA hB n k (i + 1) (done ++ [px m x (rd_T32 A i) (rd_T32 B i)]) (by omega) (by omega) (by simp; omega)).trans ?_
    simp [res]
theorem rvalid10_f (m : Int) : imageeditorref10_Valid.f m = some (decide (0 ≤ m ∧ m ≤ 17)) := valid_f m
section
variable {k : Nat} (hk : 65560 < k) {m x W H : Int} {A : List S32} {W' H' : Int} {B : List S32} {r s : Int} (hr : r = 0 → A.length ≤ 65536 ∧ (A.length : Int) = W * H) (hs : s = 0 → B.length ≤ 65536 ∧ (B.length : Int) = W' * H')
include hk hr hs
theorem rimage_f (h1 : imageeditorref10_Valued.f (k + 2) W H A = some r) (h2 : imageeditorref10_Valued.f (k + 2) W' H' B = some s) : imageeditorref10_Image.f (k + 3) m x W H A W' H' B = some (out m x W H A W' H' B r s) := by
  unfold imageeditorref10_Image.f out
  rw [rvalid10_f]
  simp only [Option.bind_some]
  by_cases g1 : 0 ≤ m ∧ m ≤ 17
  · rw [if_pos g1, if_pos (decide_eq_true g1)]
    by_cases g0 : x < 0
    · rw [if_pos g0, if_neg (fun h => by omega)]
      simp only [imageeditorref10_Image.j0, if_true]
      rfl
    rw [if_neg g0]
    by_cases g2 : x > 65535
    · rw [decide_eq_true g2, if_neg (fun h => by omega)]
      simp only [imageeditorref10_Image.j0, if_true]
      rfl
    rw [decide_eq_false g2, if_pos ⟨by omega, by omega⟩]
    simp only [imageeditorref10_Image.j0, Bool.false_eq_true, if_false, h1, h2, Option.bind_some]
    by_cases g3 : r = 0
    · rw [if_pos g3, if_pos g3]
      by_cases g4 : s = 0
      · rw [if_pos g4, if_pos g4]
        by_cases g5 : W = W'
        · rw [if_pos g5]
          by_cases g6 : H = H'
          · have hA := hr g3
            have hB : B.length = A.length := by
              have h := hs g4
              rw [← g5, ← g6] at h
              omega
            have d := rdraws m x W H A B hA.1 hB A.length (k + 1) 0 [] (by omega) (by omega) rfl
            rw [if_pos ⟨g5, g6⟩, ← g6, ← g5, show (H != H) = false from by simp]
            simp only [imageeditorref10_Image.j1, Bool.false_eq_true, if_false]
            exact d
          · rw [if_neg (fun h => g6 h.2), show (H != H') = true from by simp [g6]]
            simp only [imageeditorref10_Image.j1, if_true]
            rfl
        · rw [if_neg g5, if_neg (fun h => g5 h.1)]
          simp only [imageeditorref10_Image.j1, if_true]
          rfl
      · rw [if_neg g4, if_neg g4]
        rfl
    · rw [if_neg g3, if_neg g3]
      rfl
  · rw [if_neg g1, if_neg (by simp [g1])]
    rfl
end
/-- An image is the same as itself. -/
theorem same_loop (W H W' H' : Int) (l : List S32) (hl : l.length ≤ 65536) : ∀ (n k : Nat) (i : Int), i + n = l.length → 0 ≤ i → n < k → imageeditorlaw10_same.l0 k i W H l W' H' l = some true
  | n, 0, i, h, h0, hk => by omega
  | 0, k + 1, i, h, h0, hk => by
    have c : ¬ i < (l.length : Int) := by omega
    simp only [imageeditorlaw10_same.l0, if_neg c]
  | n + 1, k + 1, i, h, h0, hk => by
    have c : i < (l.length : Int) := by omega
    simp only [imageeditorlaw10_same.l0, if_pos c, if_pos h0, beq_self_eq_true, Bool.not_true, Bool.or_false, Bool.false_eq_true, if_false]
    rw [w64 (n := i + 1) (by omega) (by omega)]
    exact same_loop W H W' H' l hl n k (i + 1) (by omega) (by omega) (by omega)
theorem same_self (k : Nat) (hk : 65540 < k) (W H : Int) (l : List S32) (hl : l.length ≤ 65536) : imageeditorlaw10_same.f (k + 1) W H l W H l = some true := by
  unfold imageeditorlaw10_same.f
  rw [if_pos rfl, if_pos rfl, show ((l.length : Int) != (l.length : Int)) = false from by simp]
  simp only [imageeditorlaw10_same.j0, Bool.false_eq_true, if_false]
  exact same_loop W H W H l hl l.length k 0 (by omega) (by omega) (by omega)
theorem BlendImages (m x W H : Int) (A : List S32) (W' H' : Int) (B : List S32) : ∃ k, imageeditorlaw10_BlendImages.f k m x W H A W' H' B = some true := by
  obtain ⟨j, hj⟩ : ∃ j : Nat, j = 70000 := ⟨_, rfl⟩
  obtain ⟨r, a1, a2, a3⟩ := checks (j + 29) (j + 28) (by omega) (by omega) W H A
  obtain ⟨s, b1, b2, b3⟩ := checks (j + 29) (j + 28) (by omega) (by omega) W' H' B
  have e1 := image_f (k := j + 27) (m := m) (x := x) (by omega) a3 b3 a1 b1
  have e2 := rimage_f (k := j + 27) (m := m) (x := x) (by omega) a3 b3 a2 b2
  have e3 := out_len (m := m) (x := x) (W' := W') (H' := H') (B := B) (s := s) a3
  generalize out m x W H A W' H' B r s = R at *
  refine ⟨j + 30, ?_⟩
  unfold imageeditorlaw10_BlendImages.f
  rw [e1, e2, example_of j]
  simp only [Option.bind_some]
  rw [if_pos trivial, same_self (j + 29) (by omega) R.1 R.2.1 R.2.2.1 e3]
  simp
end Go.Proofs.Ytnijapaaickifaa.Pure
