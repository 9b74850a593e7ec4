/-
  The colors of the modes come to the same numbers for program and reference. Plain facts, no conditions beside those written.
-/
import Derived.Test.YtnijapaaickifaaI21
import Derived.Test.YtnijapaaickifaaI9
import Derived.Test.YtnijapaaickifaaChanI
namespace Go.Proofs.Ytnijapaaickifaa.Num
open Go.RowKit Go.Proofs.YtnijapaaickifaaW.PrintWords Go.Proofs.YtnijapaaickifaaW.PrintLast Go.Proofs.Ytnijapaaickifaa.I

theorem rd2_abs {a b M : Int} (hb : 0 < b) (h : -M ≤ a) (h' : a ≤ M) : -M ≤ rd2 a b ∧ rd2 a b ≤ M := by
  have m : M * 1 ≤ M * b := Int.mul_le_mul_of_nonneg_left (by omega) (by omega)
  unfold rd2
  constructor
  · apply Int.le_ediv_of_mul_le (by omega)
    have : -M * (2 * b) = -(2 * (M * b)) := by rw [Int.neg_mul, Int.mul_left_comm]
    omega
  · have : (2 * a + b) / (2 * b) < M + 1 := Int.ediv_lt_of_lt_mul (by omega) (by
      have : (M + 1) * (2 * b) = 2 * (M * b) + 2 * b := by rw [Int.add_mul, Int.one_mul, Int.mul_left_comm]
      omega)
    omega
theorem mul_abs {a b A B : Int} (h : -A ≤ a) (h' : a ≤ A) (hb : 0 ≤ b) (hB : b ≤ B) : -(A * B) ≤ a * b ∧ a * b ≤ A * B := by
  have hA : 0 ≤ A := by omega
  have e1 : a * b ≤ A * b := Int.mul_le_mul_of_nonneg_right h' hb
  have e2 : A * b ≤ A * B := Int.mul_le_mul_of_nonneg_left hB hA
  have e3 : -A * b ≤ a * b := Int.mul_le_mul_of_nonneg_right h hb
  rw [Int.neg_mul] at e3
  omega

/-- A quotient that is rounded as it should be. -/
def Fair (D : Int → Int → Option Int) : Prop := ∀ a b, 0 < b → b ≤ 4611686018427387904 → -4611686018427387904 ≤ a → a ≤ 4611686018427387904 → D a b = some (rd2 a b)
theorem fair_num (k : Nat) : Fair (num_Div.f (k + 1)) := fun _ _ h1 h2 h3 h4 => div_f k h1 h2 h3 h4
theorem fair_ref (k : Nat) : Fair (imageeditorref01_Div.f (k + 1)) := fun _ _ h1 h2 h3 h4 => rdiv_f k h1 h2 h3 h4

section
variable {D : Int → Int → Option Int} (hD : Fair D) {l n x c t : Int} (hl : 0 ≤ l ∧ l ≤ 65535)
include hD hl
theorem low_of (hn : n < 0) (hn' : -200000 ≤ n) (hc : -200000 ≤ c) (hc' : c ≤ 200000) : D (wrap64 (wrap64 (c - l) * l)) (wrap64 (l - n)) = some (rd2 ((c - l) * l) (l - n)) ∧ -19660500000 ≤ rd2 ((c - l) * l) (l - n) ∧ rd2 ((c - l) * l) (l - n) ≤ 19660500000 := by
  have h := mul_abs (a := c - l) (b := l) (A := 300000) (B := 65535) (by omega) (by omega) hl.1 hl.2
  rw [w64 (n := c - l) (by omega) (by omega), w64 (n := (c - l) * l) (by omega) (by omega), w64 (n := l - n) (by omega) (by omega)]
  exact ⟨hD _ _ (by omega) (by omega) (by omega) (by omega), rd2_abs (by omega) (by omega) (by omega)⟩
theorem high_of (hx : 65535 < x) (hx' : x ≤ 200000) (ht : -19660500000 ≤ t) (ht' : t ≤ 19660500000) : D (wrap64 (wrap64 (wrap64 (l + t) - l) * wrap64 (65535 - l))) (wrap64 (x - l)) = some (rd2 (t * (65535 - l)) (x - l)) ∧ -1288450867500000 ≤ rd2 (t * (65535 - l)) (x - l) ∧ rd2 (t * (65535 - l)) (x - l) ≤ 1288450867500000 := by
  have h := mul_abs (a := t) (b := 65535 - l) (A := 19660500000) (B := 65535) (by omega) (by omega) (by omega) (by omega)
  rw [w64 (n := l + t) (by omega) (by omega), show l + t - l = t from by omega, w64 (n := t) (by omega) (by omega), w64 (n := 65535 - l) (by omega) (by omega), w64 (n := t * (65535 - l)) (by omega) (by omega), w64 (n := x - l) (by omega) (by omega)]
  exact ⟨hD _ _ (by omega) (by omega) (by omega) (by omega), rd2_abs (by omega) (by omega) (by omega)⟩
theorem only_of (hx : 65535 < x) (hx' : x ≤ 200000) (hc : -200000 ≤ c) (hc' : c ≤ 200000) : D (wrap64 (wrap64 (c - l) * wrap64 (65535 - l))) (wrap64 (x - l)) = some (rd2 ((c - l) * (65535 - l)) (x - l)) ∧ -1288450867500000 ≤ rd2 ((c - l) * (65535 - l)) (x - l) ∧ rd2 ((c - l) * (65535 - l)) (x - l) ≤ 1288450867500000 := by
  have h := mul_abs (a := c - l) (b := 65535 - l) (A := 300000) (B := 65535) (by omega) (by omega) (by omega) (by omega)
  rw [w64 (n := c - l) (by omega) (by omega), w64 (n := 65535 - l) (by omega) (by omega), w64 (n := (c - l) * (65535 - l)) (by omega) (by omega), w64 (n := x - l) (by omega) (by omega)]
  exact ⟨hD _ _ (by omega) (by omega) (by omega) (by omega), rd2_abs (by omega) (by omega) (by omega)⟩
end

/-- A channel, clipped about a luminosity. -/
def sl (l n x c : Int) : Int :=
  if n < 0 then (if x > 65535 then un (l + rd2 (rd2 ((c - l) * l) (l - n) * (65535 - l)) (x - l)) else un (l + rd2 ((c - l) * l) (l - n)))
  else (if x > 65535 then un (l + rd2 ((c - l) * (65535 - l)) (x - l)) else un c)
theorem sl_bd (l n x c : Int) : 0 ≤ sl l n x c ∧ sl l n x c ≤ 65535 := by unfold sl; split <;> split <;> exact un_bd _
theorem bu_f (x : Int) : blend_unit.f x = some (un x) := rfl
section
variable {l n x a b c : Int} (k : Nat) (hl : 0 ≤ l ∧ l ≤ 65535) (hn : -200000 ≤ n) (hx : x ≤ 200000) (ha : -200000 ≤ a ∧ a ≤ 200000) (hb : -200000 ≤ b ∧ b ≤ 200000) (hc : -200000 ≤ c ∧ c ≤ 200000)
include hl hn hx ha hb hc
theorem clip_f : blend_setLum.j0 (k + 2) l n x a b c = some (sl l n x a, sl l n x b, sl l n x c) := by
  have hD := fair_num k
  simp only [blend_setLum.j0]
  unfold sl
  by_cases c1 : n < 0
  · obtain ⟨a1, a2, a3⟩ := low_of hD hl c1 hn ha.1 ha.2
    obtain ⟨b1, b2, b3⟩ := low_of hD hl c1 hn hb.1 hb.2
    obtain ⟨d1, d2, d3⟩ := low_of hD hl c1 hn hc.1 hc.2
    by_cases c2 : x > 65535
    · obtain ⟨e1, e2, e3⟩ := high_of hD hl c2 hx a2 a3
      obtain ⟨f1, f2, f3⟩ := high_of hD hl c2 hx b2 b3
      obtain ⟨g1, g2, g3⟩ := high_of hD hl c2 hx d2 d3
      simp only [if_pos c1, if_pos c2, a1, b1, d1, e1, f1, g1, Option.bind_some, bu_f]
      rw [w64 (by omega) (by omega), w64 (by omega) (by omega), w64 (by omega) (by omega)]
    · simp only [if_pos c1, if_neg c2, a1, b1, d1, Option.bind_some, bu_f]
      rw [w64 (by omega) (by omega), w64 (by omega) (by omega), w64 (by omega) (by omega)]
  · by_cases c2 : x > 65535
    · obtain ⟨e1, e2, e3⟩ := only_of hD hl c2 hx ha.1 ha.2
      obtain ⟨f1, f2, f3⟩ := only_of hD hl c2 hx hb.1 hb.2
      obtain ⟨g1, g2, g3⟩ := only_of hD hl c2 hx hc.1 hc.2
      simp only [if_neg c1, if_pos c2, e1, f1, g1, Option.bind_some, bu_f]
      rw [w64 (by omega) (by omega), w64 (by omega) (by omega), w64 (by omega) (by omega)]
    · simp only [if_neg c1, if_neg c2, Option.bind_some, bu_f]
theorem rclip_f : imageeditorref10_SetLum.j0 (k + 2) l n x a b c = some (sl l n x a, sl l n x b, sl l n x c) := by
  have hD := fair_ref k
  simp only [imageeditorref10_SetLum.j0]
  unfold sl
  by_cases c1 : n < 0
  · obtain ⟨a1, a2, a3⟩ := low_of hD hl c1 hn ha.1 ha.2
    obtain ⟨b1, b2, b3⟩ := low_of hD hl c1 hn hb.1 hb.2
    obtain ⟨d1, d2, d3⟩ := low_of hD hl c1 hn hc.1 hc.2
    by_cases c2 : x > 65535
    · obtain ⟨e1, e2, e3⟩ := high_of hD hl c2 hx a2 a3
      obtain ⟨f1, f2, f3⟩ := high_of hD hl c2 hx b2 b3
      obtain ⟨g1, g2, g3⟩ := high_of hD hl c2 hx d2 d3
      simp only [if_pos c1, if_pos c2, a1, b1, d1, e1, f1, g1, Option.bind_some, rUnit_f]
      rw [w64 (by omega) (by omega), w64 (by omega) (by omega), w64 (by omega) (by omega)]
    · simp only [if_pos c1, if_neg c2, a1, b1, d1, Option.bind_some, rUnit_f]
      rw [w64 (by omega) (by omega), w64 (by omega) (by omega), w64 (by omega) (by omega)]
  · by_cases c2 : x > 65535
    · obtain ⟨e1, e2, e3⟩ := only_of hD hl c2 hx ha.1 ha.2
      obtain ⟨f1, f2, f3⟩ := only_of hD hl c2 hx hb.1 hb.2
      obtain ⟨g1, g2, g3⟩ := only_of hD hl c2 hx hc.1 hc.2
      simp only [if_neg c1, if_pos c2, e1, f1, g1, Option.bind_some, rUnit_f]
      rw [w64 (by omega) (by omega), w64 (by omega) (by omega), w64 (by omega) (by omega)]
    · simp only [if_neg c1, if_neg c2, Option.bind_some, rUnit_f]
end

/-- The luminosity of a color of unit values. -/
def lu (a b c : Int) : Int := rd2 (30 * a + 59 * b + 11 * c) 100
/-- A color with another luminosity. -/
def dl (l a b c : Int) : Int := l - lu a b c
def setl (l a b c y : Int) : Int := sl l (mn (mn (a + dl l a b c) (b + dl l a b c)) (c + dl l a b c)) (mx (mx (a + dl l a b c) (b + dl l a b c)) (c + dl l a b c)) (y + dl l a b c)
section
variable {l a b c : Int} (k : Nat) (ha : 0 ≤ a ∧ a ≤ 65535) (hb : 0 ≤ b ∧ b ≤ 65535) (hc : 0 ≤ c ∧ c ≤ 65535)
include ha hb hc
theorem lu_bd : 0 ≤ lu a b c ∧ lu a b c ≤ 65535 := rd2_bd (by omega) (by omega) (by omega)
theorem lum_f : blend_lum.f (k + 1) a b c = some (lu a b c) := by
  unfold blend_lum.f
  rw [w64 (n := 30 * a) (by omega) (by omega), w64 (n := 59 * b) (by omega) (by omega), w64 (n := 11 * c) (by omega) (by omega), w64 (n := 30 * a + 59 * b) (by omega) (by omega), w64 (by omega) (by omega), div_f k (by omega) (by omega) (by omega) (by omega)]
  rfl
theorem rlum_f : imageeditorref10_Lum.f (k + 1) a b c = some (lu a b c) := by
  unfold imageeditorref10_Lum.f
  rw [w64 (n := 30 * a) (by omega) (by omega), w64 (n := 59 * b) (by omega) (by omega), w64 (n := 11 * c) (by omega) (by omega), w64 (n := 30 * a + 59 * b) (by omega) (by omega), w64 (by omega) (by omega), rdiv_f k (by omega) (by omega) (by omega) (by omega)]
  rfl
variable (hl : 0 ≤ l ∧ l ≤ 65535)
include hl
theorem setLum_f : blend_setLum.f (k + 2) a b c l = some (setl l a b c a, setl l a b c b, setl l a b c c) := by
  have h := lu_bd ha hb hc
  unfold blend_setLum.f setl dl
  rw [lum_f (k + 1) ha hb hc, Option.bind_some, w64 (n := l - lu a b c) (by omega) (by omega), w64 (n := a + (l - lu a b c)) (by omega) (by omega), w64 (n := b + (l - lu a b c)) (by omega) (by omega), w64 (n := c + (l - lu a b c)) (by omega) (by omega)]
  exact clip_f k hl (by unfold mn; split <;> split <;> omega) (by unfold mx; split <;> split <;> omega) (by omega) (by omega) (by omega)
theorem rsetLum_f : imageeditorref10_SetLum.f (k + 2) a b c l = some (setl l a b c a, setl l a b c b, setl l a b c c) := by
  have h := lu_bd ha hb hc
  unfold imageeditorref10_SetLum.f setl dl
  rw [rlum_f (k + 1) ha hb hc, Option.bind_some, w64 (n := l - lu a b c) (by omega) (by omega), w64 (n := a + (l - lu a b c)) (by omega) (by omega), w64 (n := b + (l - lu a b c)) (by omega) (by omega), w64 (n := c + (l - lu a b c)) (by omega) (by omega)]
  exact rclip_f k hl (by unfold mn; split <;> split <;> omega) (by unfold mx; split <;> split <;> omega) (by omega) (by omega) (by omega)
end
theorem setl_bd (l a b c y : Int) : 0 ≤ setl l a b c y ∧ setl l a b c y ≤ 65535 := sl_bd _ _ _ _

/-- The least, the greatest of three, and their distance. -/
def lo3 (a b c : Int) : Int := mn (mn a b) c
def hi3 (a b c : Int) : Int := mx (mx a b) c
/-- A color with another saturation. -/
def sets (s a b c y : Int) : Int := if hi3 a b c = lo3 a b c then 0 else rd2 ((y - lo3 a b c) * s) (hi3 a b c - lo3 a b c)
theorem three_bd (a b c : Int) : lo3 a b c ≤ a ∧ lo3 a b c ≤ b ∧ lo3 a b c ≤ c ∧ a ≤ hi3 a b c ∧ b ≤ hi3 a b c ∧ c ≤ hi3 a b c := by
  unfold lo3 hi3 mn mx
  split <;> split <;> split <;> split <;> omega
theorem three_in {a b c : Int} (ha : 0 ≤ a ∧ a ≤ 65535) (hb : 0 ≤ b ∧ b ≤ 65535) (hc : 0 ≤ c ∧ c ≤ 65535) : 0 ≤ lo3 a b c ∧ hi3 a b c ≤ 65535 ∧ lo3 a b c ≤ 65535 ∧ 0 ≤ hi3 a b c := by
  unfold lo3 hi3 mn mx
  split <;> split <;> split <;> split <;> omega
theorem sets_bd {s a b c y : Int} (hs : 0 ≤ s ∧ s ≤ 65535) (h : lo3 a b c ≤ y) (h' : y ≤ hi3 a b c) : 0 ≤ sets s a b c y ∧ sets s a b c y ≤ 65535 := by
  unfold sets
  split
  · omega
  · have p0 : 0 ≤ (y - lo3 a b c) * s := Int.mul_nonneg (by omega) hs.1
    have p1 : (y - lo3 a b c) * s ≤ (hi3 a b c - lo3 a b c) * s := Int.mul_le_mul_of_nonneg_right (by omega) hs.1
    have p2 := rd2_bd (a := (y - lo3 a b c) * s) (b := hi3 a b c - lo3 a b c) (c := s) (by omega) p0 (by rw [Int.mul_comm s]; exact p1)
    omega
section
variable {s a b c : Int} (k : Nat) (hs : 0 ≤ s ∧ s ≤ 65535) (ha : 0 ≤ a ∧ a ≤ 65535) (hb : 0 ≤ b ∧ b ≤ 65535) (hc : 0 ≤ c ∧ c ≤ 65535)
include hs ha hb hc
theorem quot_of {D : Int → Int → Option Int} (hD : Fair D) (hne : ¬ hi3 a b c = lo3 a b c) {y : Int} (h : lo3 a b c ≤ y) (h' : y ≤ hi3 a b c) : D (wrap64 (wrap64 (y - lo3 a b c) * s)) (wrap64 (hi3 a b c - lo3 a b c)) = some (sets s a b c y) := by
  have g := three_in ha hb hc
  have p := mul_bd (a := y - lo3 a b c) (b := s) (A := 65535) (B := 65535) (by omega) (by omega) hs.1 hs.2
  unfold sets
  rw [if_neg hne, w64 (n := y - lo3 a b c) (by omega) (by omega), w64 (n := (y - lo3 a b c) * s) (by omega) (by omega), w64 (n := hi3 a b c - lo3 a b c) (by omega) (by omega)]
  exact hD _ _ (by omega) (by omega) (by omega) (by omega)
theorem setSat_f : blend_setSat.f (k + 1) a b c s = some (sets s a b c a, sets s a b c b, sets s a b c c) := by
  have t := three_bd a b c
  unfold blend_setSat.f
  change (num_Div.f (k + 1) (wrap64 (wrap64 (a - lo3 a b c) * s)) (wrap64 (hi3 a b c - lo3 a b c))).bind (fun t156 => (num_Div.f (k + 1) (wrap64 (wrap64 (b - lo3 a b c) * s)) (wrap64 (hi3 a b c - lo3 a b c))).bind fun t157 => (num_Div.f (k + 1) (wrap64 (wrap64 (c - lo3 a b c) * s)) (wrap64 (hi3 a b c - lo3 a b c))).bind fun t158 => some (t156, t157, t158)) = _
  by_cases h : hi3 a b c = lo3 a b c
  · rw [show wrap64 (hi3 a b c - lo3 a b c) = 0 from by rw [h, Int.sub_self, w64 (by omega) (by omega)], div_zero, div_zero, div_zero]
    simp [sets, h]
  · rw [quot_of hs ha hb hc (fair_num k) h (by omega) (by omega), quot_of hs ha hb hc (fair_num k) h (by omega) (by omega), quot_of hs ha hb hc (fair_num k) h (by omega) (by omega)]
    rfl
theorem rsetSat_f : imageeditorref10_SetSat.f (k + 1) a b c s = some (sets s a b c a, sets s a b c b, sets s a b c c) := by
  have t := three_bd a b c
  unfold imageeditorref10_SetSat.f
  change (if hi3 a b c = lo3 a b c then some (0, 0, 0) else (imageeditorref01_Div.f (k + 1) (wrap64 (wrap64 (a - lo3 a b c) * s)) (wrap64 (hi3 a b c - lo3 a b c))).bind (fun t156 => (imageeditorref01_Div.f (k + 1) (wrap64 (wrap64 (b - lo3 a b c) * s)) (wrap64 (hi3 a b c - lo3 a b c))).bind fun t157 => (imageeditorref01_Div.f (k + 1) (wrap64 (wrap64 (c - lo3 a b c) * s)) (wrap64 (hi3 a b c - lo3 a b c))).bind fun t158 => some (t156, t157, t158))) = _
  by_cases h : hi3 a b c = lo3 a b c
  · rw [if_pos h]
    simp [sets, h]
  · rw [if_neg h, quot_of hs ha hb hc (fair_ref k) h (by omega) (by omega), quot_of hs ha hb hc (fair_ref k) h (by omega) (by omega), quot_of hs ha hb hc (fair_ref k) h (by omega) (by omega)]
    rfl
end
def sa (a b c : Int) : Int := hi3 a b c - lo3 a b c
section
variable {a b c : Int} (ha : 0 ≤ a ∧ a ≤ 65535) (hb : 0 ≤ b ∧ b ≤ 65535) (hc : 0 ≤ c ∧ c ≤ 65535)
include ha hb hc
theorem sa_bd : 0 ≤ sa a b c ∧ sa a b c ≤ 65535 := by
  have := three_bd a b c
  have := three_in ha hb hc
  unfold sa; omega
theorem sat_f : blend_sat.f a b c = some (sa a b c) := by
  have := sa_bd ha hb hc
  show some (wrap64 (sa a b c)) = _
  rw [w64 (by omega) (by omega)]
theorem rsat_f : imageeditorref10_Sat.f a b c = some (sa a b c) := sat_f ha hb hc
end

/-- The blended color of two colors of unit values. -/
def col (m a b c a' b' c' : Int) : Int × Int × Int × Int :=
  if m = 14 then
    (setl (lu a b c) (sets (sa a b c) a' b' c' a') (sets (sa a b c) a' b' c' b') (sets (sa a b c) a' b' c' c') (sets (sa a b c) a' b' c' a'),
     setl (lu a b c) (sets (sa a b c) a' b' c' a') (sets (sa a b c) a' b' c' b') (sets (sa a b c) a' b' c' c') (sets (sa a b c) a' b' c' b'),
     setl (lu a b c) (sets (sa a b c) a' b' c' a') (sets (sa a b c) a' b' c' b') (sets (sa a b c) a' b' c' c') (sets (sa a b c) a' b' c' c'), 65535)
  else if m = 15 then
    (setl (lu a b c) (sets (sa a' b' c') a b c a) (sets (sa a' b' c') a b c b) (sets (sa a' b' c') a b c c) (sets (sa a' b' c') a b c a),
     setl (lu a b c) (sets (sa a' b' c') a b c a) (sets (sa a' b' c') a b c b) (sets (sa a' b' c') a b c c) (sets (sa a' b' c') a b c b),
     setl (lu a b c) (sets (sa a' b' c') a b c a) (sets (sa a' b' c') a b c b) (sets (sa a' b' c') a b c c) (sets (sa a' b' c') a b c c), 65535)
  else if m = 16 then (setl (lu a b c) a' b' c' a', setl (lu a b c) a' b' c' b', setl (lu a b c) a' b' c' c', 65535)
  else if m = 17 then (setl (lu a' b' c') a b c a, setl (lu a' b' c') a b c b, setl (lu a' b' c') a b c c, 65535)
  else (ch m a a', ch m b b', ch m c c', 65535)
theorem colors_f (k : Nat) (m a b c d a' b' c' d' : Int) : blend_Colors.f (k + 3) m a b c d a' b' c' d' = some (col m (un a) (un b) (un c) (un a') (un b') (un c')) := by
  have ha := un_bd a
  have hb := un_bd b
  have hc := un_bd c
  have ha' := un_bd a'
  have hb' := un_bd b'
  have hc' := un_bd c'
  unfold blend_Colors.f
  rw [limit_f, limit_f]
  simp only [Option.bind_some, blend_color.f]
  generalize un a = x at *
  generalize un b = y at *
  generalize un c = z at *
  generalize un a' = x' at *
  generalize un b' = y' at *
  generalize un c' = z' at *
  have t := three_bd x y z
  have t' := three_bd x' y' z'
  have s := sa_bd ha hb hc
  have s' := sa_bd ha' hb' hc'
  have l := lu_bd ha hb hc
  have l' := lu_bd ha' hb' hc'
  simp only [blend_Colors.j0]
  unfold col
  by_cases h14 : m = 14
  · rw [if_pos h14, if_pos h14, sat_f ha hb hc, Option.bind_some, setSat_f (k + 1) s ha' hb' hc', Option.bind_some, lum_f (k + 1) ha hb hc, Option.bind_some]
    simp only []
    rw [setLum_f k (sets_bd s (by omega) (by omega)) (sets_bd s (by omega) (by omega)) (sets_bd s (by omega) (by omega)) l]
    rfl
  rw [if_neg h14, if_neg h14]
  by_cases h15 : m = 15
  · rw [if_pos h15, if_pos h15, sat_f ha' hb' hc', Option.bind_some, setSat_f (k + 1) s' ha hb hc, Option.bind_some, lum_f (k + 1) ha hb hc, Option.bind_some]
    simp only []
    rw [setLum_f k (sets_bd s' (by omega) (by omega)) (sets_bd s' (by omega) (by omega)) (sets_bd s' (by omega) (by omega)) l]
    rfl
  rw [if_neg h15, if_neg h15]
  by_cases h16 : m = 16
  · rw [if_pos h16, if_pos h16, lum_f (k + 1) ha hb hc, Option.bind_some, setLum_f k ha' hb' hc' l]
    rfl
  rw [if_neg h16, if_neg h16]
  by_cases h17 : m = 17
  · rw [if_pos h17, if_pos h17, lum_f (k + 1) ha' hb' hc', Option.bind_some, setLum_f k ha hb hc l']
    rfl
  rw [if_neg h17, if_neg h17, chan_f ha ha', chan_f hb hb', chan_f hc hc']
  rfl
theorem rcolors_f (k : Nat) (m a b c d a' b' c' d' : Int) : imageeditorref10_Colors.f (k + 3) m a b c d a' b' c' d' = some (col m (un a) (un b) (un c) (un a') (un b') (un c')) := by
  have ha := un_bd a
  have hb := un_bd b
  have hc := un_bd c
  have ha' := un_bd a'
  have hb' := un_bd b'
  have hc' := un_bd c'
  have e1 := un_un a
  have e2 := un_un b
  have e3 := un_un c
  have e1' := un_un a'
  have e2' := un_un b'
  have e3' := un_un c'
  unfold imageeditorref10_Colors.f
  rw [rlimit_f, rlimit_f]
  simp only [Option.bind_some]
  generalize un a = x at *
  generalize un b = y at *
  generalize un c = z at *
  generalize un a' = x' at *
  generalize un b' = y' at *
  generalize un c' = z' at *
  have t := three_bd x y z
  have t' := three_bd x' y' z'
  have s := sa_bd ha hb hc
  have s' := sa_bd ha' hb' hc'
  have l := lu_bd ha hb hc
  have l' := lu_bd ha' hb' hc'
  simp only [imageeditorref10_Colors.j0]
  unfold col
  by_cases h14 : m = 14
  · rw [if_pos h14, if_pos h14, rsat_f ha hb hc, Option.bind_some, rsetSat_f (k + 1) s ha' hb' hc', Option.bind_some, rlum_f (k + 1) ha hb hc, Option.bind_some]
    simp only []
    rw [rsetLum_f k (sets_bd s (by omega) (by omega)) (sets_bd s (by omega) (by omega)) (sets_bd s (by omega) (by omega)) l]
    rfl
  rw [if_neg h14, if_neg h14]
  by_cases h15 : m = 15
  · rw [if_pos h15, if_pos h15, rsat_f ha' hb' hc', Option.bind_some, rsetSat_f (k + 1) s' ha hb hc, Option.bind_some, rlum_f (k + 1) ha hb hc, Option.bind_some]
    simp only []
    rw [rsetLum_f k (sets_bd s' (by omega) (by omega)) (sets_bd s' (by omega) (by omega)) (sets_bd s' (by omega) (by omega)) l]
    rfl
  rw [if_neg h15, if_neg h15]
  by_cases h16 : m = 16
  · rw [if_pos h16, if_pos h16, rlum_f (k + 1) ha hb hc, Option.bind_some, rsetLum_f k ha' hb' hc' l]
    rfl
  rw [if_neg h16, if_neg h16]
  by_cases h17 : m = 17
  · rw [if_pos h17, if_pos h17, rlum_f (k + 1) ha' hb' hc', Option.bind_some, rsetLum_f k ha hb hc l']
    rfl
  rw [if_neg h17, if_neg h17, rchannel_f, rchannel_f, rchannel_f, e1, e2, e3, e1', e2', e3']
  rfl

end Go.Proofs.Ytnijapaaickifaa.Num
