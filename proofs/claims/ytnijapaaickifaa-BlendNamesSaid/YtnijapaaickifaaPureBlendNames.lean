/-
  Valid, Name and Find come to the reference's answers. No conditions.
-/
import Derived.Test.YtnijapaaickifaaQ18
import Derived.Test.YtnijapaaickifaaNum
import Derived.Test.YtnijapaaickifaaExample
namespace Go.Proofs.Ytnijapaaickifaa.Pure
open Go.RowKit Go.Proofs.YtnijapaaickifaaW.PrintWords Go.Proofs.YtnijapaaickifaaW.PrintLast Go.Proofs.Ytnijapaaickifaa.Q Go.Proofs.Ytnijapaaickifaa.Num

theorem valids (a : Int) : ∃ b, blend_Valid.f a = some b ∧ imageeditorref10_Valid.f a = some b := by
  unfold blend_Valid.f imageeditorref10_Valid.f
  by_cases h : a ≥ 0
  · rw [if_pos h]; exact ⟨_, rfl, rfl⟩
  · rw [if_neg h]; exact ⟨_, rfl, rfl⟩
theorem valid_in {a : Int} (h : blend_Valid.f a = some true) : 0 ≤ a ∧ a < 18 := by
  unfold blend_Valid.f at h
  by_cases c : a ≥ 0
  · rw [if_pos c] at h
    have := of_decide_eq_true (Option.some.inj h)
    omega
  · rw [if_neg c] at h; simp at h
theorem names_agree (a : Int) : ∃ s, blend_Name.f a = some s ∧ imageeditorref10_Name.f a = some s := by
  obtain ⟨b, h1, h2⟩ := valids a
  unfold blend_Name.f imageeditorref10_Name.f
  rw [h1, h2, Option.bind_some, Option.bind_some]
  cases b with
  | false => exact ⟨_, rfl, rfl⟩
  | true =>
    obtain ⟨c0, c1⟩ := valid_in h1
    simp only [if_true]
    unfold blend_names.f imageeditorref10_names.f
    simp only [Option.bind_some, List.length_cons, List.length_nil]
    rw [if_pos c0, if_pos (by omega)]
    exact ⟨_, rfl, rfl⟩
theorem finds (s : ByteArray) (L : List ByteArray) (hL : L.length = 18) : ∀ (n : Nat) (i : Int), i + n = 18 → 0 ≤ i → ∃ r, slices_Index_string_string.l0 (n + 1) L s 18 i = some r ∧ imageeditorref10_Find.l0 (n + 1) s L i = some (mx r 0, decide (r ≥ 0))
  | 0, i, h, h0 => by
    unfold slices_Index_string_string.l0 imageeditorref10_Find.l0
    rw [if_neg (show ¬ i < 18 by omega), if_neg (show ¬ i < (L.length : Int) by omega)]
    exact ⟨_, rfl, rfl⟩
  | n + 1, i, h, h0 => by
    have c1 : i < 18 := by omega
    have c2 : i < (L.length : Int) := by omega
    unfold slices_Index_string_string.l0 imageeditorref10_Find.l0
    simp only [if_pos c1, if_pos c2, if_pos h0]
    by_cases he : s.toList = (rdOf ByteArray.empty L i).toList
    · rw [if_pos he, if_pos he.symm]
      refine ⟨_, rfl, ?_⟩
      have e : mx i 0 = i := by unfold mx; rw [if_neg (by omega)]
      rw [e, decide_eq_true (show i ≥ 0 from h0)]
    · rw [if_neg he, if_neg (fun h' => he h'.symm), w64 (by omega) (by omega)]
      exact finds s L hL n (i + 1) (by omega) (by omega)
theorem names_are : ∃ L, blend_names.f = some L ∧ imageeditorref10_names.f = some L ∧ L.length = 18 := ⟨_, rfl, rfl, rfl⟩
theorem finds_agree (s : ByteArray) : ∃ r, blend_Find.f 19 s = some r ∧ imageeditorref10_Find.f 19 s = some r := by
  obtain ⟨L, e1, e2, hL⟩ := names_are
  obtain ⟨r, h1, h2⟩ := finds s L hL 18 0 (by omega) (by omega)
  refine ⟨(mx r 0, decide (r ≥ 0)), ?_, ?_⟩
  · unfold blend_Find.f slices_Index_string_string.f
    rw [e1, Option.bind_some, hL]
    change (slices_Index_string_string.l0 (18 + 1) L s 18 0).bind _ = _
    rw [h1]; rfl
  · unfold imageeditorref10_Find.f
    rw [e2, Option.bind_some]
    exact h2
theorem find_up (s : ByteArray) (r : Int × Bool) (h : blend_Find.f 19 s = some r) : blend_Find.f 30 s = some r := by
  iterate 11 apply blend_Find.mono
  exact h
theorem findr_up (s : ByteArray) (r : Int × Bool) (h : imageeditorref10_Find.f 19 s = some r) : imageeditorref10_Find.f 30 s = some r := by
  iterate 11 apply imageeditorref10_Find.mono
  exact h
theorem BlendNames (a : Int) (s : ByteArray) (_hz : s.size ≤ 140737488351232) : ∃ k, imageeditorlaw10_BlendNames.f k a s = some true := by
  obtain ⟨r, f1, f2⟩ := finds_agree s
  obtain ⟨b, v1, v2⟩ := valids a
  obtain ⟨t, n1, n2⟩ := names_agree a
  refine ⟨30, ?_⟩
  unfold imageeditorlaw10_BlendNames.f
  rw [find_up s r f1, findr_up s r f2, v1, v2, n1, n2, example_of 0]
  simp
end Go.Proofs.Ytnijapaaickifaa.Pure
