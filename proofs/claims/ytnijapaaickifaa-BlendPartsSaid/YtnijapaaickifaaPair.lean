/-
  A pair of images handed over by value reads as its numbers and its two rows of pixels. No conditions.
-/
import Derived.Test.YtnijapaaickifaaI0
import Derived.Deep.Slices
import Derived.Deep.Strs
import Derived.Lib.SmallJoins
namespace Go.Proofs.Ytnijapaaickifaa.Pix
open Go.ChangeShapes Go.WideShapes Go.ChangeAt Go.RowKit Go.Joins Go.Deep Go.Proofs.YtnijapaaickifaaW.PrintWords Go.Proofs.YtnijapaaickifaaW.PrintLast Go.Proofs.Ytnijapaaickifaa.I
theorem cells3 : Try.prog.cellsOf 3 = 1 := by kernel_rfl
theorem cells24 : Try.prog.cellsOf 24 = 3 := by kernel_rfl
theorem cells26 : Try.prog.cellsOf 26 = 8 := by kernel_rfl
theorem cells22 : Try.prog.cellsOf 22 = 1 := by kernel_rfl
theorem cellsP : Try.prog.cellsOf 32 = 4 := by kernel_rfl
instance : Inhabited S32 := ⟨z32⟩
theorem eight {α : Type} {cs : Array α} (h : cs.size = 8) : ∃ c0 c1 c2 c3 c4 c5 c6 c7, cs = #[c0, c1, c2, c3, c4, c5, c6, c7] := by
  obtain ⟨l⟩ := cs
  match l, h with
  | [c0, c1, c2, c3, c4, c5, c6, c7], _ => exact ⟨c0, c1, c2, c3, c4, c5, c6, c7, rfl⟩
section
variable {H : Type} {enc : TypeId × Value → H} {w : World} {base : Nat} {spare : Nat → Bool} {held : Bool}
theorem read_px {fuel : Nat} {cs : List Value} {x : DataW H × List MemPlace} (h : DataW.trod enc Try.prog w base spare held fuel 32 cs = some x) : ∃ s : S32, cs = [.int .i64 s.f0, .int .i64 s.f1, .int .i64 s.f2, .int .i64 s.f3] := by
  obtain ⟨y0, y1, y2, y3, n, _, hl, h0, h1, h2, h3⟩ := trod_struct4 Try.underlying32 h
  rw [cellsP] at hl
  match cs, hl with
  | [c0, c1, c2, c3], _ =>
    simp only [cells3] at h0 h1 h2 h3
    obtain ⟨a, e0, _, _⟩ := DataW.trod_int Try.underlying3 h0
    obtain ⟨b, e1, _, _⟩ := DataW.trod_int Try.underlying3 h1
    obtain ⟨c, e2, _, _⟩ := DataW.trod_int Try.underlying3 h2
    obtain ⟨d, e3, _, _⟩ := DataW.trod_int Try.underlying3 h3
    simp at e0 e1 e2 e3
    subst e0 e1 e2 e3
    exact ⟨⟨a, b, c, d⟩, rfl⟩
/-- A row of pixels reads as a list of pixels. -/
theorem read_row {fuel : Nat} {v : Value} {x : DataW H × List MemPlace} (h : DataW.trod enc Try.prog w base spare held fuel 22 [v] = some x) : ∃ (A : Option Addr) (c : Nat) (l : List S32), v = .slice A l.length c ∧ Kd.C k32 w A l.length l ∧ l.length ≤ c := by
  rcases open_slice Try.underlying22 h with ⟨hc, _⟩ | ⟨a, len, cap, m, n, D, Pl, hc, _, hl, hm, hmm, _, hx⟩
  · obtain rfl : v = .slice none 0 0 := by simpa using hc
    exact ⟨none, 0, [], rfl, ⟨rfl, by simp, fun h0 => absurd h0 (by simp)⟩, Nat.le_refl _⟩
  · obtain rfl : v = .slice (some a) len cap := by simpa using hc
    have hlm : len ≤ m := by rw [hmm]; split <;> omega
    have each : ∀ i, i < len → ∃ s : S32, ∀ (j : Nat) (u : Value), [Value.int .i64 s.f0, .int .i64 s.f1, .int .i64 s.f2, .int .i64 s.f3][j]? = some u → w.cell? (a.add (i * 4 + j)) = some u := by
      intro i hi
      obtain ⟨cs', h1, h2⟩ := hx i (by omega)
      rw [cellsP] at h1
      obtain ⟨_, hlen, hcell⟩ := World.cells?_some h1
      obtain ⟨s, rfl⟩ := read_px h2
      refine ⟨s, fun j u hj => ?_⟩
      have hj4 : j < 4 := by
        have := (List.getElem?_eq_some_iff.mp hj).1
        simpa using this
      have e := hcell j hj4
      rw [add_add] at e
      rw [e]; exact hj
    obtain ⟨f, hf⟩ := choose_lt each
    have hL : ((List.range len).map f).length = len := by simp
    refine ⟨some a, cap, (List.range len).map f, by rw [hL], ?_, by rw [hL]; exact hl⟩
    rw [hL]
    refine ⟨hL, by have : maxLen ≤ 9223372036854775807 := by decide
                   omega, fun _ => ⟨a, rfl, fun j p hp => ?_⟩⟩
    have hj : j < len := by
      have := (List.getElem?_eq_some_iff.mp hp).1
      simpa using this
    obtain rfl : f j = p := by simpa [hj] using hp
    exact ⟨_, rfl, k32_mk w (f j), fun i u hu => hf j hj i u hu⟩
/-- An image's three cells. -/
theorem read_image {fuel : Nat} {c0 c1 c2 : Value} {x : DataW H × List MemPlace} (h : DataW.trod enc Try.prog w base spare held fuel 24 [c0, c1, c2] = some x) : ∃ (a b : Int) (A : Option Addr) (c : Nat) (l : List S32), c0 = .int .i64 a ∧ c1 = .int .i64 b ∧ c2 = .slice A l.length c ∧ Kd.C k32 w A l.length l ∧ l.length ≤ c := by
  obtain ⟨y0, y1, y2, n, _, _, h0, h1, h2⟩ := trod_struct3 Try.underlying24 h
  simp only [cells3, cells22] at h0 h1 h2
  obtain ⟨a, e0, _, _⟩ := DataW.trod_int Try.underlying3 h0
  obtain ⟨b, e1, _, _⟩ := DataW.trod_int Try.underlying3 h1
  obtain ⟨A, c, l, rfl, hC, hc⟩ := read_row h2
  simp at e0 e1
  exact ⟨a, b, A, c, l, e0, e1, rfl, hC, hc⟩
theorem open_pair {r : Reach} {b0 : Nat} {v : Value} {d : DataW H} {p : List MemPlace} (hv : Value.okWide Try.prog w r b0 26 v) (h : DataW.Trod enc Try.prog w base spare held 26 v d p) :
    ∃ (a b c e : Int) (A : Option Addr) (m : Nat) (l : List S32) (f g : Int) (A' : Option Addr) (m' : Nat) (l' : List S32), v = .agg #[.int .i64 a, .int .i64 b, .int .i64 c, .int .i64 e, .slice A l.length m, .int .i64 f, .int .i64 g, .slice A' l'.length m'] ∧
      Kd.C k32 w A l.length l ∧ l.length ≤ m ∧ Kd.C k32 w A' l'.length l' ∧ l'.length ≤ m' := by
  obtain ⟨cs, rfl, hsz⟩ := okWide_struct Try.underlying26 hv
  obtain ⟨c0, c1, c2, c3, c4, c5, c6, c7, rfl⟩ := eight (hsz.trans cells26)
  obtain ⟨fuel, hf⟩ := h
  obtain ⟨y0, y1, y2, y3, n, _, _, h0, h1, h2, h3⟩ := trod_struct4 Try.underlying26 hf
  simp only [cells3, cells24] at h0 h1 h2 h3
  obtain ⟨a, e0, _, _⟩ := DataW.trod_int Try.underlying3 h0
  obtain ⟨b, e1, _, _⟩ := DataW.trod_int Try.underlying3 h1
  obtain ⟨c, e, A, m, l, rfl, rfl, rfl, hC, hc⟩ := read_image h2
  obtain ⟨f, g, A', m', l', rfl, rfl, rfl, hC', hc'⟩ := read_image h3
  simp [Value.cells] at e0 e1
  subst e0 e1
  exact ⟨a, b, c, e, A, m, l, f, g, A', m', l', rfl, hC, hc, hC', hc'⟩
end
end Go.Proofs.Ytnijapaaickifaa.Pix
