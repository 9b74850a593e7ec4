/-
  The notation of pixels as numbers: what Print and Parse come to, for program and reference. Plain facts, no conditions beside those written.
-/
import Derived.Test.YtmklcmobahgeeaaQ9
import Derived.Test.YtmklcmobahgeeaaQ10
import Derived.Test.YtmklcmobahgeeaaFun
namespace Go.Proofs.Ytmklcmobahgeeaa.Pure
open Go.RowKit Go.Proofs.YtmklcmobahgeeaaW.PrintWords Go.Proofs.Ytmklcmobahgeeaa.Q Go.Proofs.Ytmklcmobahgeeaa.Num

/-- The character of a hexadecimal digit, and the digit of a character. -/
def hx (n : Int) : Int := if n < 10 then 48 + n else 87 + n
def dg (c : Int) : Int := if 48 ≤ c ∧ c ≤ 57 then c - 48 else if 97 ≤ c ∧ c ≤ 102 then c - 87 else if 65 ≤ c ∧ c ≤ 70 then c - 55 else -1
theorem dg_hx {n : Int} (h : 0 ≤ n) (h' : n < 16) : dg (hx n) = n := by
  unfold dg hx; split <;> split <;> (try split) <;> (try split) <;> omega
theorem dg_bd (c : Int) : -1 ≤ dg c ∧ dg c < 16 := by
  unfold dg; split <;> (try split) <;> (try split) <;> omega
theorem hx_bd {n : Int} (h : 0 ≤ n) (h' : n < 16) : 0 ≤ hx n ∧ hx n < 256 := by
  unfold hx; split <;> omega
theorem digit_2 : ∀ m : Fin 256, pixel_digit.f 2 (m.val : Int) = some (if dg m.val < 0 then (0, false) else (dg m.val, true)) := by decide +kernel
theorem digit_f (k : Nat) {c : Int} (h : 0 ≤ c) (h' : c < 256) : pixel_digit.f (k + 2) c = some (if dg c < 0 then (0, false) else (dg c, true)) := by
  induction k with
  | zero =>
    have := digit_2 ⟨c.toNat, by omega⟩
    simpa [Int.toNat_of_nonneg h] using this
  | succ k ih => exact pixel_digit.mono _ _ _ ih

theorem bt_bd (s : ByteArray) (i : Int) : 0 ≤ bt s i ∧ bt s i < 256 := by
  unfold bt
  split
  · have := UInt8.toNat_lt s[i.toNat]
    omega
  · omega
theorem strOfNums_append (xs ys : List Int) : strOfNums (xs ++ ys) = strOfNums xs ++ strOfNums ys := by
  apply ByteArray.ext
  simp [strOfNums]
theorem bt_strOfNums (xs : List Int) (i : Nat) (hi : i < xs.length) (h : 0 ≤ xs[i]) (h' : xs[i] < 256) : bt (strOfNums xs) (i : Int) = xs[i] := by
  have hs := strOfNums_size xs
  unfold bt
  rw [dif_pos (by rw [hs]; omega)]
  have e : (strOfNums xs)[((i : Int)).toNat]'(by rw [hs]; omega) = UInt8.ofNat (xs[i]).toNat := by
    show (strOfNums xs).data[((i : Int)).toNat]'_ = _
    simp [strOfNums]
  rw [e]
  simp
  omega

/-! ### Print -/
def table : ByteArray := ⟨#[48, 49, 50, 51, 52, 53, 54, 55, 56, 57, 97, 98, 99, 100, 101, 102]⟩
theorem table_at : ∀ m : Fin 16, bt table (m.val : Int) = hx m.val := by decide
theorem table_bt {n : Int} (h : 0 ≤ n) (h' : n < 16) : bt table n = hx n := by
  have := table_at ⟨n.toNat, by omega⟩
  simpa [Int.toNat_of_nonneg h] using this
/-- The two characters of a channel. -/
def hi (x : Int) : Int := hx (rd2 (un x) 257 / 16)
def lo (x : Int) : Int := hx (rd2 (un x) 257 % 16)
def printed (a b c d : Int) : List Int := [35, hi a, lo a, hi b, lo b, hi c, lo c, hi d, lo d]
theorem print_step (k : Nat) (x3 x16 : List Int) (i : Int) (h0 : 0 ≤ i) (h : i < 4) (hl : x16.length = 4) (h3 : x3.length < 100) : pixel_Print.l0 (k + 2) x3 x16 4 i = pixel_Print.l0 (k + 1) (x3 ++ [hi (rd x16 i), lo (rd x16 i)]) x16 4 (i + 1) := by
  obtain ⟨a0, a1⟩ := to8_bd (rd x16 i)
  conv => lhs; unfold pixel_Print.l0
  rw [if_pos h, if_pos h0, if_pos (by rw [hl]; exact h), to8_f, Option.bind_some, Int.tdiv_eq_ediv_of_nonneg a0, Int.tmod_eq_emod_of_nonneg a0, w64 (n := rd2 (un (rd x16 i)) 257 / 16) (by omega) (by omega), if_pos (by omega), if_pos (by omega), if_pos (by omega), if_pos (by omega), Option.bind_some, if_pos (by simp only [List.length_cons, List.length_nil]; omega), w64 (n := i + 1) (by omega) (by omega)]
  have e1 := table_bt (n := rd2 (un (rd x16 i)) 257 / 16) (by omega) (by omega)
  have e2 := table_bt (n := rd2 (un (rd x16 i)) 257 % 16) (by omega) (by omega)
  unfold table at e1 e2
  rw [e1, e2]
  rfl
theorem print_f (k : Nat) (a b c d : Int) : pixel_Print.f (k + 6) a b c d = some (strOfNums (printed a b c d)) := by
  unfold pixel_Print.f
  rw [Option.bind_some]
  change pixel_Print.l0 (k + 6) [35] [a, b, c, d] 4 0 = _
  rw [print_step _ _ _ _ (by omega) (by omega) rfl (by decide), print_step _ _ _ _ (by omega) (by omega) rfl (by simp), print_step _ _ _ _ (by omega) (by omega) rfl (by simp), print_step _ _ _ _ (by omega) (by omega) rfl (by simp)]
  simp only [pixel_Print.l0]
  rw [if_neg (by omega)]
  rfl
theorem printed_size (a b c d : Int) : (strOfNums (printed a b c d)).size = 9 := strOfNums_size _
theorem hi_dg (x : Int) : 0 ≤ hi x ∧ hi x < 256 ∧ dg (hi x) = rd2 (un x) 257 / 16 := by
  obtain ⟨a0, a1⟩ := to8_bd x
  have := hx_bd (n := rd2 (un x) 257 / 16) (by omega) (by omega)
  exact ⟨this.1, this.2, dg_hx (by omega) (by omega)⟩
theorem lo_dg (x : Int) : 0 ≤ lo x ∧ lo x < 256 ∧ dg (lo x) = rd2 (un x) 257 % 16 := by
  obtain ⟨a0, a1⟩ := to8_bd x
  have := hx_bd (n := rd2 (un x) 257 % 16) (by omega) (by omega)
  exact ⟨this.1, this.2, dg_hx (by omega) (by omega)⟩

/-! ### Parse -/
theorem parse_end (k : Nat) (l : List Int) (hl : l.length = 8) : pixel_Parse.j2 (k + 1) l = some (257 * u8 (wrap64 (wrap64 (16 * rd l 0) + rd l 1)), 257 * u8 (wrap64 (wrap64 (16 * rd l 2) + rd l 3)), 257 * u8 (wrap64 (wrap64 (16 * rd l 4) + rd l 5)), 257 * u8 (wrap64 (wrap64 (16 * rd l 6) + rd l 7)), 0) := by
  simp only [pixel_Parse.j2]
  unfold pixel_Parse_1.f
  rw [if_pos (by rw [hl]; omega), if_pos (by rw [hl]; omega), if_pos (by rw [hl]; omega), if_pos (by rw [hl]; omega)]
  simp only [from8_f, Option.bind_some]
  rfl
theorem parse_step (k : Nat) (s : ByteArray) (i : Int) (l : List Int) (h0 : 1 ≤ i) (h : i < 9) (hs : s.size = 9) (hl : l.length < 100) (hd : 0 ≤ dg (bt s i)) : pixel_Parse.l0 (k + 3) s 8 i l = pixel_Parse.l0 (k + 2) s 8 (i + 1) (l ++ [dg (bt s i)]) := by
  obtain ⟨a0, a1⟩ := bt_bd s i
  conv => lhs; unfold pixel_Parse.l0
  rw [if_pos (by omega), if_pos (by omega), if_pos (by omega), digit_f _ a0 a1, Option.bind_some, show (if dg (bt s i) < 0 then ((0 : Int), false) else (dg (bt s i), true)) = (dg (bt s i), true) from if_neg (by omega)]
  rw [if_pos rfl, if_pos (by omega), Option.bind_some, if_neg (by omega), w64 (n := i + 1) (by omega) (by omega)]
/-- What is printed is parsed to the eight digits' values. -/
theorem parse_printed (k : Nat) (a b c d : Int) : pixel_Parse.f (k + 12) (strOfNums (printed a b c d)) = some (257 * rd2 (un a) 257, 257 * rd2 (un b) 257, 257 * rd2 (un c) 257, 257 * rd2 (un d) 257, 0) := by
  have hs := printed_size a b c d
  have ha := to8_bd a
  have hb := to8_bd b
  have hc := to8_bd c
  have hd := to8_bd d
  have b0 : bt (strOfNums (printed a b c d)) 0 = 35 := bt_strOfNums (printed a b c d) 0 (by decide : 0 < 9) (by decide : (0 : Int) ≤ 35) (by decide : (35 : Int) < 256)
  have b1 : dg (bt (strOfNums (printed a b c d)) 1) = rd2 (un a) 257 / 16 := by
    rw [show bt (strOfNums (printed a b c d)) 1 = hi a from bt_strOfNums (printed a b c d) 1 (by decide : 1 < 9) (hi_dg a).1 (hi_dg a).2.1]; exact (hi_dg a).2.2
  have b2 : dg (bt (strOfNums (printed a b c d)) 2) = rd2 (un a) 257 % 16 := by
    rw [show bt (strOfNums (printed a b c d)) 2 = lo a from bt_strOfNums (printed a b c d) 2 (by decide : 2 < 9) (lo_dg a).1 (lo_dg a).2.1]; exact (lo_dg a).2.2
  have b3 : dg (bt (strOfNums (printed a b c d)) 3) = rd2 (un b) 257 / 16 := by
    rw [show bt (strOfNums (printed a b c d)) 3 = hi b from bt_strOfNums (printed a b c d) 3 (by decide : 3 < 9) (hi_dg b).1 (hi_dg b).2.1]; exact (hi_dg b).2.2
  have b4 : dg (bt (strOfNums (printed a b c d)) 4) = rd2 (un b) 257 % 16 := by
    rw [show bt (strOfNums (printed a b c d)) 4 = lo b from bt_strOfNums (printed a b c d) 4 (by decide : 4 < 9) (lo_dg b).1 (lo_dg b).2.1]; exact (lo_dg b).2.2
  have b5 : dg (bt (strOfNums (printed a b c d)) 5) = rd2 (un c) 257 / 16 := by
    rw [show bt (strOfNums (printed a b c d)) 5 = hi c from bt_strOfNums (printed a b c d) 5 (by decide : 5 < 9) (hi_dg c).1 (hi_dg c).2.1]; exact (hi_dg c).2.2
  have b6 : dg (bt (strOfNums (printed a b c d)) 6) = rd2 (un c) 257 % 16 := by
    rw [show bt (strOfNums (printed a b c d)) 6 = lo c from bt_strOfNums (printed a b c d) 6 (by decide : 6 < 9) (lo_dg c).1 (lo_dg c).2.1]; exact (lo_dg c).2.2
  have b7 : dg (bt (strOfNums (printed a b c d)) 7) = rd2 (un d) 257 / 16 := by
    rw [show bt (strOfNums (printed a b c d)) 7 = hi d from bt_strOfNums (printed a b c d) 7 (by decide : 7 < 9) (hi_dg d).1 (hi_dg d).2.1]; exact (hi_dg d).2.2
  have b8 : dg (bt (strOfNums (printed a b c d)) 8) = rd2 (un d) 257 % 16 := by
    rw [show bt (strOfNums (printed a b c d)) 8 = lo d from bt_strOfNums (printed a b c d) 8 (by decide : 8 < 9) (lo_dg d).1 (lo_dg d).2.1]; exact (lo_dg d).2.2
  unfold pixel_Parse.f
  rw [hs, b0, show wrap64 (((9 : Nat) : Int) - 1) = 8 from w64 (n := 8) (by omega) (by omega), if_neg (by decide), if_neg (by decide), if_pos rfl, if_pos (by decide)]
  simp only [pixel_Parse.j0]
  rw [if_neg (by decide)]
  generalize hT : strOfNums (printed a b c d) = T at *
  rw [parse_step _ T 1 _ (by omega) (by omega) hs (by simp) (by omega), b1, show (1 : Int) + 1 = 2 from rfl,
    parse_step _ T 2 _ (by omega) (by omega) hs (by simp) (by omega), b2, show (2 : Int) + 1 = 3 from rfl,
    parse_step _ T 3 _ (by omega) (by omega) hs (by simp) (by omega), b3, show (3 : Int) + 1 = 4 from rfl,
    parse_step _ T 4 _ (by omega) (by omega) hs (by simp) (by omega), b4, show (4 : Int) + 1 = 5 from rfl,
    parse_step _ T 5 _ (by omega) (by omega) hs (by simp) (by omega), b5, show (5 : Int) + 1 = 6 from rfl,
    parse_step _ T 6 _ (by omega) (by omega) hs (by simp) (by omega), b6, show (6 : Int) + 1 = 7 from rfl,
    parse_step _ T 7 _ (by omega) (by omega) hs (by simp) (by omega), b7, show (7 : Int) + 1 = 8 from rfl,
    parse_step _ T 8 _ (by omega) (by omega) hs (by simp) (by omega), b8, show (8 : Int) + 1 = 9 from rfl]
  simp only [pixel_Parse.l0]
  rw [if_neg (by omega), if_pos trivial, parse_end _ _ (by simp)]
  have j : ∀ v : Int, 0 ≤ v → v ≤ 255 → u8 (wrap64 (wrap64 (16 * (v / 16)) + v % 16)) = v := by
    intro v h h'
    rw [w64 (n := 16 * (v / 16)) (by omega) (by omega), w64 (by omega) (by omega), u8_of (by omega) (by omega)]; omega
  simp only [List.nil_append, List.cons_append, rd, List.getD_eq_getElem?_getD]
  simp only [show ((0 : Int)).toNat = 0 from rfl, show ((1 : Int)).toNat = 1 from rfl, show ((2 : Int)).toNat = 2 from rfl, show ((3 : Int)).toNat = 3 from rfl, show ((4 : Int)).toNat = 4 from rfl, show ((5 : Int)).toNat = 5 from rfl, show ((6 : Int)).toNat = 6 from rfl, show ((7 : Int)).toNat = 7 from rfl]
  simp only [List.getElem?_cons_zero, List.getElem?_cons_succ, Option.getD_some]
  rw [j _ ha.1 ha.2, j _ hb.1 hb.2, j _ hc.1 hc.2, j _ hd.1 hd.2]

end Go.Proofs.Ytmklcmobahgeeaa.Pure
