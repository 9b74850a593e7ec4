/-
  Compositing of two images comes to the same pixels for program and reference. Plain facts, no conditions beside those written.
-/
import Derived.Test.YtnijapaaickifaaI15
import Derived.Test.YtnijapaaickifaaI17
import Derived.Test.YtnijapaaickifaaI23
import Derived.Test.YtnijapaaickifaaRovI
namespace Go.Proofs.Ytnijapaaickifaa.Num
open Go.RowKit Go.Proofs.YtnijapaaickifaaW.PrintWords Go.Proofs.YtnijapaaickifaaW.PrintLast Go.Proofs.Ytnijapaaickifaa.I

/-! ### what an image must be -/
theorem valids_agree (a b c d : Int) : ∃ r, pixel_Valid.f a b c d = some r ∧ imageeditorref06_Valid.f a b c d = some r := by
  refine ⟨_, rfl, ?_⟩
  unfold imageeditorref06_Valid.f
  rw [rlimit_f]
  simp only [Option.bind_some, Option.some.injEq]
  rw [Bool.eq_iff_iff]
  simp only [Bool.and_eq_true, beq_iff_eq]
  constructor
  · rintro ⟨h1, h2, h3, h4⟩; exact ⟨h1.symm, h2.symm, h3.symm, h4.symm⟩
  · rintro ⟨h1, h2, h3, h4⟩; exact ⟨h1.symm, h2.symm, h3.symm, h4.symm⟩
theorem looks (l : List S32) (W H : Int) (hl : l.length ≤ 65536) : ∀ (n k k' : Nat) (i : Int), i + n = l.length → 0 ≤ i → n < k → n < k' → ∃ r, blend_check.l0 k l (l.length : Int) i = some r ∧ imageeditorref10_Valued.l0 k' i W H l = some r
  | n, 0, k', i, h, h0, hk, hk' => by omega
  | n, k + 1, 0, i, h, h0, hk, hk' => by omega
  | 0, k + 1, k' + 1, i, h, h0, hk, hk' => by
    have c : ¬ i < (l.length : Int) := by omega
    simp only [blend_check.l0, imageeditorref10_Valued.l0, if_neg c]
    exact ⟨_, rfl, rfl⟩
  | n + 1, k + 1, k' + 1, i, h, h0, hk, hk' => by
    have c : i < (l.length : Int) := by omega
    obtain ⟨r, e1, e2⟩ := valids_agree (rd_T32 l i).f0 (rd_T32 l i).f1 (rd_T32 l i).f2 (rd_T32 l i).f3
    simp only [blend_check.l0, imageeditorref10_Valued.l0, if_pos c, if_pos h0, e1, e2, Option.bind_some]
    cases r with
    | false => exact ⟨2, rfl, rfl⟩
    | true =>
      simp only [if_true]
      rw [w64 (n := i + 1) (by omega) (by omega)]
      exact looks l W H hl n k k' (i + 1) (by omega) (by omega) (by omega) (by omega)
/-- Both tell the same of an image, and where they find no fault it has as many pixels as its sides tell. -/
theorem checks (k k' : Nat) (hk : 65536 < k) (hk' : 65536 < k') (W H : Int) (l : List S32) : ∃ r, blend_check.f (k + 1) W H l = some r ∧ imageeditorref10_Valued.f (k' + 1) W H l = some r ∧ (r = 0 → l.length ≤ 65536 ∧ (l.length : Int) = W * H) := by
  have b1 : blend_check.j0 (k + 1) true W H l = some 15 := by simp only [blend_check.j0, if_true]
  have b2 : imageeditorref10_Valued.j0 (k' + 1) true W H l = some 15 := by simp only [imageeditorref10_Valued.j0, if_true]
  have bad : ∀ r, r = (15 : Int) → (r = 0 → l.length ≤ 65536 ∧ (l.length : Int) = W * H) := by intro r h h'; omega
  unfold blend_check.f imageeditorref10_Valued.f
  by_cases h1 : W < 0
  · have m : mn W H < 0 := by unfold mn; split <;> omega
    rw [if_pos m, if_pos h1]; exact ⟨15, b1, b2, bad _ rfl⟩
  by_cases h2 : H < 0
  · have m : mn W H < 0 := by unfold mn; split <;> omega
    rw [if_pos m, if_neg h1, if_pos h2]; exact ⟨15, b1, b2, bad _ rfl⟩
  have m : ¬ mn W H < 0 := by unfold mn; split <;> omega
  rw [if_neg m, if_neg h1, if_neg h2]
  by_cases h3 : W > 256
  · have m : mx W H > 256 := by unfold mx; split <;> omega
    rw [if_pos m, if_pos h3]; exact ⟨15, b1, b2, bad _ rfl⟩
  by_cases h4 : H > 256
  · have m : mx W H > 256 := by unfold mx; split <;> omega
    rw [if_pos m, if_neg h3, if_pos h4]; exact ⟨15, b1, b2, bad _ rfl⟩
  have m : ¬ mx W H > 256 := by unfold mx; split <;> omega
  rw [if_neg m, if_neg h3, if_neg h4]
  by_cases h5 : ((W == 0) != (H == 0)) = true
  · rw [if_pos h5, if_pos h5]; exact ⟨15, b1, b2, bad _ rfl⟩
  rw [if_neg h5, if_neg h5]
  have p := mul_bd (a := W) (b := H) (A := 256) (B := 256) (by omega) (by omega) (by omega) (by omega)
  rw [w64 (n := W * H) (by omega) (by omega)]
  by_cases h6 : (l.length : Int) = W * H
  · have hl : l.length ≤ 65536 := by omega
    have e : ((l.length : Int) != W * H) = false := by rw [h6]; simp
    rw [e]
    simp only [blend_check.j0, imageeditorref10_Valued.j0]
    obtain ⟨r, r1, r2⟩ := looks l W H hl l.length k k' 0 (by omega) (by omega) (by omega) (by omega)
    exact ⟨r, r1, r2, fun _ => ⟨hl, h6⟩⟩
  · have e : ((l.length : Int) != W * H) = true := by simp [h6]
    rw [e]; exact ⟨15, b1, b2, bad _ rfl⟩

/-! ### one pixel -/
/-- A pixel, faded. -/
def fd (a b c d x : Int) : Int × Int × Int × Int := if rd2 (un d * un x) 65535 = 0 then (0, 0, 0, 0) else (un a, un b, un c, rd2 (un d * un x) 65535)
theorem fade_f (a b c d x : Int) : pixel_Fade.f a b c d x = some (fd a b c d x) := by
  unfold pixel_Fade.f fd
  rw [limit_f]
  simp only [Option.bind_some, mul_f, un_un]
  split <;> rfl
theorem rfade_f (k : Nat) (a b c d x : Int) : imageeditorref06_Fade.f (k + 1) a b c d x = some (fd a b c d x) := by
  have h := mul_bd (un_bd d).1 (un_bd d).2 (un_bd x).1 (un_bd x).2
  unfold imageeditorref06_Fade.f fd
  rw [rlimit_f, rU_f]
  simp only [Option.bind_some]
  rw [w64 (n := un d * un x) (by omega) (by omega), rdiv_f k (by omega) (by omega) (by omega) (by omega)]
  simp only [Option.bind_some]
  split <;> rfl
/-- A faded pixel composited over another one. -/
def px4 (m x : Int) (p q : S32) : Int × Int × Int × Int :=
  ov m (un p.f0) (un p.f1) (un p.f2) (un p.f3) (un (fd q.f0 q.f1 q.f2 q.f3 x).1) (un (fd q.f0 q.f1 q.f2 q.f3 x).2.1) (un (fd q.f0 q.f1 q.f2 q.f3 x).2.2.1) (un (fd q.f0 q.f1 q.f2 q.f3 x).2.2.2)
def px (m x : Int) (p q : S32) : S32 := ⟨(px4 m x p q).1, (px4 m x p q).2.1, (px4 m x p q).2.2.1, (px4 m x p q).2.2.2⟩

/-! ### the pixels of the result -/
/-- n pixels from place i on. -/
def res (m x : Int) (A B : List S32) : Nat → Nat → List S32
  | _, 0 => []
  | i, n + 1 => px m x (rd_T32 A i) (rd_T32 B i) :: res m x A B (i + 1) n
theorem res_len (m x : Int) (A B : List S32) : ∀ n i, (res m x A B i n).length = n
  | 0, _ => rfl
  | n + 1, i => by simp [res, res_len m x A B n (i + 1)]
theorem res_get (m x : Int) (A B : List S32) : ∀ n i j, j < n → (res m x A B i n).getD j z32 = px m x (rd_T32 A (i + j : Nat)) (rd_T32 B (i + j : Nat))
  | 0, _, _, h => by omega
  | n + 1, i, 0, h => by simp [res]
  | n + 1, i, j + 1, h => by
    have e := res_get m x A B n (i + 1) j (by omega)
    rw [show i + 1 + j = i + (j + 1) from by omega] at e
    rw [← e]
    simp [res]
theorem over_at {k : Nat} (h : 3 ≤ k) (m a b c d a' b' c' d' : Int) : blend_Over.f k m a b c d a' b' c' d' = some (ov m (un a) (un b) (un c) (un d) (un a') (un b') (un c') (un d')) := by
  obtain ⟨j, rfl⟩ : ∃ j, k = j + 3 := ⟨k - 3, by omega⟩
  exact over_f j m a b c d a' b' c' d'
theorem rfade_at {k : Nat} (h : 1 ≤ k) (a b c d x : Int) : imageeditorref06_Fade.f k a b c d x = some (fd a b c d x) := by
  obtain ⟨j, rfl⟩ : ∃ j, k = j + 1 := ⟨k - 1, by omega⟩
  exact rfade_f j a b c d x
theorem draws (m x W H : Int) (A B : List S32) (hA : A.length ≤ 65536) (hB : B.length = A.length) : ∀ (n k i : Nat) (done rest : List S32), i + n = A.length → n + 4 < k → done.length = i → rest.length = n → blend_Image.l0 k m x A (A.length : Int) (i : Int) W H B W H (done ++ rest) = some (W, H, done ++ res m x A B i n, 0)
  | n, 0, i, done, rest, h, hk, hd, hr => by omega
  | 0, k + 1, i, done, rest, h, hk, hd, hr => by
    have c : ¬ (i : Int) < (A.length : Int) := by omega
    obtain rfl : rest = [] := List.eq_nil_of_length_eq_zero hr
    simp only [blend_Image.l0, if_neg c]
    rfl
  | n + 1, k + 1, i, done, rest, h, hk, hd, hr => by
    have ho := over_at (k := k) (by omega)
    obtain ⟨r, rs, rfl⟩ : ∃ r rs, rest = r :: rs := by cases rest with
      | nil => simp at hr
      | cons r rs => exact ⟨r, rs, rfl⟩
    have c : (i : Int) < (A.length : Int) := by omega
    have c' : (i : Int) < (B.length : Int) := by omega
    have c0 : 0 ≤ (i : Int) := by omega
    have cl : (i : Int) < ((done ++ r :: rs).length : Int) := by simp; omega
    have e : ∀ p : S32, (done ++ r :: rs).set (i : Int).toNat p = (done ++ [p]) ++ rs := by
      intro p
      rw [Int.toNat_natCast, ← hd, List.set_append_right _ _ (Nat.le_refl _), Nat.sub_self]
      simp
    simp only [blend_Image.l0, if_pos c, if_pos c', if_pos c0, if_pos cl, fade_f, ho, Option.bind_some, e]
    rw [w64 (n := (i : Int) + 1) (by omega) (by omega), show ((i : Int) + 1) = ((i + 1 : Nat) : Int) from by omega]
    refine (draws m x W H A B hA hB n k (i + 1) (done ++ [px m x (rd_T32 A i) (rd_T32 B i)]) rs (by omega) (by omega) (by simp; omega) (by simpa using hr)).trans ?_
    simp [res]
/-- An error. -/
def bad (c : Int) : Int × Int × List S32 × Int := (0, 0, ([] : List S32), c)
/-- What comes out, by what is found of the two images. -/
def out (m x W H : Int) (A : List S32) (W' H' : Int) (B : List S32) (r s : Int) : Int × Int × List S32 × Int :=
  if 0 ≤ m ∧ m ≤ 17 then (if 0 ≤ x ∧ x ≤ 65535 then (if r = 0 then (if s = 0 then (if W = W' ∧ H = H' then (W, H, res m x A B 0 A.length, 0) else bad 15) else bad s) else bad r) else bad 2) else bad 8
theorem out_len {m x W H : Int} {A : List S32} {W' H' : Int} {B : List S32} {r s : Int} (h : r = 0 → A.length ≤ 65536 ∧ (A.length : Int) = W * H) : (out m x W H A W' H' B r s).2.2.1.length ≤ 65536 := by
  unfold out
  by_cases h1 : 0 ≤ m ∧ m ≤ 17
  · rw [if_pos h1]
    by_cases h2 : 0 ≤ x ∧ x ≤ 65535
    · rw [if_pos h2]
      by_cases h3 : r = 0
      · rw [if_pos h3]
        by_cases h4 : s = 0
        · rw [if_pos h4]
          by_cases h5 : W = W' ∧ H = H'
          · rw [if_pos h5]
            show (res m x A B 0 A.length).length ≤ 65536
            rw [res_len]
            exact (h h3).1
          · rw [if_neg h5]; exact Nat.zero_le _
        · rw [if_neg h4]; exact Nat.zero_le _
      · rw [if_neg h3]; exact Nat.zero_le _
    · rw [if_neg h2]; exact Nat.zero_le _
  · rw [if_neg h1]; exact Nat.zero_le _
theorem valid_f (m : Int) : blend_Valid.f m = some (decide (0 ≤ m ∧ m ≤ 17)) := by
  unfold blend_Valid.f
  by_cases h : m ≥ 0
  · rw [if_pos h]
    congr 1
    rw [decide_eq_decide]
    omega
  · rw [if_neg h, decide_eq_false (by omega)]
section
variable {k : Nat} (hk : 65560 < k) {m x W H : Int} {A : List S32} {W' H' : Int} {B : List S32} {r s : Int} (hr : r = 0 → A.length ≤ 65536 ∧ (A.length : Int) = W * H) (hs : s = 0 → B.length ≤ 65536 ∧ (B.length : Int) = W' * H')
include hk hr hs
theorem image_f (h1 : blend_check.f (k + 3) W H A = some r) (h2 : blend_check.f (k + 3) W' H' B = some s) : blend_Image.f (k + 3) m x W H A W' H' B = some (out m x W H A W' H' B r s) := by
  have hu : blend_unit.f x = some (un x) := rfl
  unfold blend_Image.f out
  rw [valid_f, hu]
  simp only [Option.bind_some, h1, h2]
  by_cases g1 : 0 ≤ m ∧ m ≤ 17
  · rw [if_pos g1, if_pos (decide_eq_true g1)]
    by_cases g2 : 0 ≤ x ∧ x ≤ 65535
    · rw [if_pos g2, if_pos (un_of g2.1 g2.2).symm]
      by_cases g3 : r = 0
      · rw [if_pos g3, if_pos g3]
        by_cases g4 : s = 0
        · rw [if_pos g4, if_pos g4]
          by_cases g5 : W = W'
          · rw [if_pos g5]
            by_cases g6 : H = H'
            · have hA := hr g3
              have hB : B.length = A.length := by
                have h := hs g4
                rw [← g5, ← g6] at h
                omega
              have c1 : (0 : Int) ≤ (A.length : Int) := by omega
              have c2 : ((A.length : Int) : Int).toNat ≤ 8796093022208 := by omega
              have d := draws m x W H A B hA.1 hB A.length (k + 2) 0 [] (List.replicate A.length z32) (by omega) (by omega) rfl (by simp)
              rw [if_pos ⟨g5, g6⟩, ← g6, ← g5, show (H != H) = false from by simp]
              simp only [blend_Image.j0, Bool.false_eq_true, if_false, if_pos c1, if_pos c2]
              exact d
            · rw [if_neg (fun h => g6 h.2), show (H != H') = true from by simp [g6]]
              simp only [blend_Image.j0, if_true]
              rfl
          · rw [if_neg g5, if_neg (fun h => g5 h.1)]
            simp only [blend_Image.j0, if_true]
            rfl
        · rw [if_neg g4, if_neg g4]
          rfl
      · rw [if_neg g3, if_neg g3]
        rfl
    · have e : ¬ x = un x := by have := un_bd x; omega
      rw [if_neg g2, if_neg e]
      rfl
  · rw [if_neg g1, if_neg (by simp [g1])]
    rfl
end
end Go.Proofs.Ytnijapaaickifaa.Num
