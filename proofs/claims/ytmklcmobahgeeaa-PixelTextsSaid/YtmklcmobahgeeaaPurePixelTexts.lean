/-
  Print and Parse come to the reference's answers, as numbers and bytes. No conditions beside the string's size.
-/
import Derived.Test.YtmklcmobahgeeaaQ20
import Derived.Test.YtmklcmobahgeeaaRef
import Derived.Test.YtmklcmobahgeeaaText
import Derived.Test.YtmklcmobahgeeaaAwake
namespace Go.Proofs.Ytmklcmobahgeeaa.Pure
open Go.RowKit Go.Proofs.YtmklcmobahgeeaaW.PrintWords Go.Proofs.Ytmklcmobahgeeaa.Q Go.Proofs.Ytmklcmobahgeeaa.Num

/-! ### Print -/
theorem from8r_f (v : Int) : imageeditorref06_From8.f v = some (257 * u8 v) := by
  have := u8_bd v
  have e : imageeditorref01_Clamp.f v 0 255 = some (u8 v) := rfl
  unfold imageeditorref06_From8.f
  rw [e, Option.bind_some, w64 (by omega) (by omega)]
theorem to8r_f (k : Nat) (v : Int) : imageeditorref06_To8.f (k + 1) v = some (rd2 (un v) 257) := by
  have := un_bd v
  unfold imageeditorref06_To8.f
  rw [rU_f, Option.bind_some, rdiv_f k (by omega) (by omega) (by omega) (by omega), Option.bind_some]
theorem digits_2 : ∀ m : Fin 256, imageeditorref06_digits.f (m.val : Int) = some (strOfNums [hx ((m.val : Int) / 16), hx ((m.val : Int) % 16)]) := by decide +kernel
theorem digits_f (x : Int) : imageeditorref06_digits.f (rd2 (un x) 257) = some (strOfNums [hi x, lo x]) := by
  have h := to8_bd x
  have := digits_2 ⟨(rd2 (un x) 257).toNat, by omega⟩
  simpa [hi, lo, Int.toNat_of_nonneg h.1] using this
theorem printr_f (k : Nat) (a b c d : Int) : imageeditorref06_Print.f (k + 1) a b c d = some (strOfNums (printed a b c d)) := by
  have e : (⟨#[35]⟩ : ByteArray) = strOfNums [35] := rfl
  unfold imageeditorref06_Print.f
  simp only [to8r_f, digits_f, Option.bind_some, e, ← strOfNums_append, strOfNums_size]
  rw [if_pos (by simp), if_pos (by simp), if_pos (by simp), if_pos (by simp)]
  rfl

/-! ### Parse -/
theorem digitr_2 : ∀ m : Fin 256, imageeditorref06_digit.f 2 (m.val : Int) = some (dg m.val) := by decide +kernel
theorem digitr_f (k : Nat) {c : Int} (h : 0 ≤ c) (h' : c < 256) : imageeditorref06_digit.f (k + 2) c = some (dg c) := by
  induction k with
  | zero =>
    have := digitr_2 ⟨c.toNat, by omega⟩
    simpa [Int.toNat_of_nonneg h] using this
  | succ k ih => exact imageeditorref06_digit.mono _ _ _ ih
theorem endr (k : Nat) (l : List Int) (hl : l.length = 8) : imageeditorref06_Parse.j2 (k + 1) l = pixel_Parse.j2 (k + 1) l := by
  rw [parse_end k l hl]
  simp only [imageeditorref06_Parse.j2]
  rw [if_pos (by omega), if_pos (by omega), from8r_f, Option.bind_some, if_pos (by omega), if_pos (by omega), from8r_f, Option.bind_some, if_pos (by omega), if_pos (by omega), from8r_f, Option.bind_some, if_pos (by omega), if_pos (by omega), from8r_f, Option.bind_some]
theorem loops_agree (s : ByteArray) (hs : s.size = 4 ∨ s.size = 7 ∨ s.size = 9) : ∀ (n : Nat) (i : Int) (l : List Int), i + n = s.size → 1 ≤ i → (l.length : Int) = (if s.size = 4 then 2 * (i - 1) else i - 1) → ∃ r, pixel_Parse.l0 (n + 3) s ((s.size : Int) - 1) i l = some r ∧ imageeditorref06_Parse.l0 (n + 3) s l i = some r
  | 0, i, l, hi, h1, hl => by
    have c1 : ¬ i ≤ (s.size : Int) - 1 := by omega
    have c2 : ¬ i < (s.size : Int) := by omega
    unfold pixel_Parse.l0 imageeditorref06_Parse.l0
    rw [if_neg c1, if_neg c2]
    rcases hs with hs | hs | hs
    · rw [if_pos hs] at hl
      rw [if_neg (c := (s.size : Int) - 1 = 8) (by omega), if_pos (c := (l.length : Int) = 6) (by omega), Option.bind_some, Option.bind_some, if_pos (by simp only [List.length_cons, List.length_nil]; omega), if_pos (by simp only [List.length_cons, List.length_nil]; omega), endr _ _ (by simp; omega), parse_end _ _ (by simp; omega)]
      exact ⟨_, rfl, rfl⟩
    · rw [if_neg (by omega)] at hl
      rw [if_neg (c := (s.size : Int) - 1 = 8) (by omega), if_pos (c := (l.length : Int) = 6) (by omega), Option.bind_some, Option.bind_some, if_pos (by simp only [List.length_cons, List.length_nil]; omega), if_pos (by simp only [List.length_cons, List.length_nil]; omega), endr _ _ (by simp; omega), parse_end _ _ (by simp; omega)]
      exact ⟨_, rfl, rfl⟩
    · rw [if_neg (by omega)] at hl
      rw [if_pos (c := (s.size : Int) - 1 = 8) (by omega), if_neg (c := (l.length : Int) = 6) (by omega), endr _ _ (by omega), parse_end _ _ (by omega)]
      exact ⟨_, rfl, rfl⟩
  | n + 1, i, l, hi, h1, hl => by
    obtain ⟨a0, a1⟩ := bt_bd s i
    have hl' : l.length < 20 := by rcases hs with hs | hs | hs <;> split at hl <;> omega
    have c1 : i ≤ (s.size : Int) - 1 := by omega
    have c2 : i < (s.size : Int) := by omega
    have c3 : 0 ≤ i := by omega
    have c4 : l.length < 17592186044416 := by omega
    unfold pixel_Parse.l0 imageeditorref06_Parse.l0
    simp only [if_pos c1, if_pos c2, if_pos c3, if_pos c4]
    rw [digit_f _ a0 a1, digitr_f _ a0 a1]
    simp only [Option.bind_some]
    by_cases hd : dg (bt s i) < 0
    · simp only [if_pos hd]
      rw [if_neg (by simp)]
      exact ⟨_, rfl, rfl⟩
    · simp only [if_neg hd]
      rw [if_pos trivial, show wrap64 (i + 1) = i + 1 from w64 (by omega) (by omega)]
      by_cases h4 : s.size = 4
      · rw [if_pos h4] at hl
        rw [if_pos (c := (s.size : Int) - 1 = 3) (by omega), if_pos (c := (s.size : Int) = 4) (by omega), if_pos (c := (l ++ [dg (bt s i)]).length < 17592186044416) (by simp only [List.length_append, List.length_cons, List.length_nil]; omega), if_pos (c := (l ++ [dg (bt s i)]).length < 17592186044416) (by simp only [List.length_append, List.length_cons, List.length_nil]; omega)]
        exact loops_agree s hs n (i + 1) (l ++ [dg (bt s i)] ++ [dg (bt s i)]) (by omega) (by omega) (by rw [if_pos h4]; simp only [List.length_append, List.length_cons, List.length_nil]; omega)
      · rw [if_neg h4] at hl
        rw [if_neg (c := (s.size : Int) - 1 = 3) (by omega), if_neg (c := (s.size : Int) = 4) (by omega)]
        exact loops_agree s hs n (i + 1) (l ++ [dg (bt s i)]) (by omega) (by omega) (by rw [if_neg h4]; simp only [List.length_append, List.length_cons, List.length_nil]; omega)
theorem starts_agree (s : ByteArray) (hs : s.size = 4 ∨ s.size = 7 ∨ s.size = 9) (b : Bool) : ∃ r, pixel_Parse.j0 20 s ((s.size : Int) - 1) b = some r ∧ imageeditorref06_Parse.j0 20 s b = some r := by
  simp only [pixel_Parse.j0, imageeditorref06_Parse.j0]
  cases b with
  | true => rw [if_pos rfl, if_pos rfl]; exact ⟨_, rfl, rfl⟩
  | false =>
    rw [if_neg (by simp), if_neg (by simp)]
    obtain ⟨r, h1, h2⟩ := loops_agree s hs (s.size - 1) 1 [] (by omega) (by omega) (by split <;> simp)
    have up : ∀ m k, k + m = 19 → pixel_Parse.l0 k s ((s.size : Int) - 1) 1 [] = some r → imageeditorref06_Parse.l0 k s [] 1 = some r → pixel_Parse.l0 19 s ((s.size : Int) - 1) 1 [] = some r ∧ imageeditorref06_Parse.l0 19 s [] 1 = some r := by
      intro m
      induction m with
      | zero => intro k hk g1 g2; rw [show k = 19 from by omega] at g1 g2; exact ⟨g1, g2⟩
      | succ m ih => intro k hk g1 g2; exact ih (k + 1) (by omega) ((pixel_Parse.mono_l k).2.1 _ _ _ _ _ g1) ((imageeditorref06_Parse.mono_l k).2.1 _ _ _ _ g2)
    exact ⟨r, up (19 - (s.size - 1 + 3)) _ (by omega) h1 h2⟩
theorem parses_agree (s : ByteArray) (hz : s.size ≤ 140737488351232) : ∃ r, pixel_Parse.f 20 s = some r ∧ imageeditorref06_Parse.f 20 s = some r := by
  have e : wrap64 ((s.size : Int) - 1) = (s.size : Int) - 1 := w64 (by omega) (by omega)
  unfold pixel_Parse.f imageeditorref06_Parse.f
  rw [e]
  by_cases h4 : s.size = 4
  · have c0 : 0 < (s.size : Int) := by omega
    simp only [if_pos (show (s.size : Int) - 1 = 3 by omega), if_pos (show (s.size : Int) = 4 by omega), if_pos c0]
    exact starts_agree s (.inl h4) _
  · simp only [if_neg (show ¬ (s.size : Int) - 1 = 3 by omega), if_neg (show ¬ (s.size : Int) = 4 by omega)]
    by_cases h7 : s.size = 7
    · have c0 : 0 < (s.size : Int) := by omega
      simp only [if_pos (show (s.size : Int) - 1 = 6 by omega), if_pos (show (s.size : Int) = 7 by omega), if_pos c0]
      exact starts_agree s (.inr (.inl h7)) _
    · simp only [if_neg (show ¬ (s.size : Int) - 1 = 6 by omega), if_neg (show ¬ (s.size : Int) = 7 by omega)]
      by_cases h9 : s.size = 9
      · have c0 : 0 < (s.size : Int) := by omega
        simp only [if_pos (show (s.size : Int) - 1 = 8 by omega), if_pos (show (s.size : Int) = 9 by omega), if_pos c0]
        exact starts_agree s (.inr (.inr h9)) _
      · simp only [if_neg (show ¬ (s.size : Int) - 1 = 8 by omega), if_neg (show ¬ (s.size : Int) = 9 by omega)]
        simp only [pixel_Parse.j0, imageeditorref06_Parse.j0]
        rw [if_pos trivial, if_pos trivial]
        exact ⟨_, rfl, rfl⟩
theorem parse_up (s : ByteArray) (r : Int × Int × Int × Int × Int) (h : pixel_Parse.f 20 s = some r) : pixel_Parse.f 30 s = some r := by
  iterate 10 apply pixel_Parse.mono
  exact h
theorem parser_up (s : ByteArray) (r : Int × Int × Int × Int × Int) (h : imageeditorref06_Parse.f 20 s = some r) : imageeditorref06_Parse.f 30 s = some r := by
  iterate 10 apply imageeditorref06_Parse.mono
  exact h
theorem PixelTexts (a b c d : Int) (s : ByteArray) (hz : s.size ≤ 140737488351232) : ∃ k, imageeditorlaw06_PixelTexts.f k a b c d s = some true := by
  obtain ⟨r, h1, h2⟩ := parses_agree s hz
  refine ⟨30, ?_⟩
  unfold imageeditorlaw06_PixelTexts.f
  rw [parse_up s r h1, parser_up s r h2, print_f 24, printr_f 29, awake_of 0]
  simp
end Go.Proofs.Ytmklcmobahgeeaa.Pure
