-- Written for this claim by a program of this session (handprint.py) that drives the kit's print. Not trusted: Lean checks it.
import Derived.Test.YtnijapaaickifaaI0
import Derived.Test.YtnijapaaickifaaI2
import Derived.Test.YtnijapaaickifaaI11
import Derived.Test.YtnijapaaickifaaI13
import Derived.Test.YtnijapaaickifaaI14
namespace Go.Proofs.Ytnijapaaickifaa.I
open Go.RowKit Go.Proofs.YtnijapaaickifaaW.PrintWords Go.Proofs.YtnijapaaickifaaW.PrintLast
attribute [local go_sem] max2_int min2_int max_two min_two max_three min_three max_four min_four
set_option linter.unusedVariables false
set_option linter.unusedSimpArgs false

/-! ### blend_Image: function 12 -/
mutual
def blend_Image.j0 : Nat → Int → Int → Bool → Int → Int → List (S32) → Int → Int → List (S32) → Option (Int × Int × (List (S32)) × Int)
  | 0, _, _, _, _, _, _, _, _, _ => none
  | k + 1, x0, x1, x47, x247000, x247001, x247002, x248000, x248001, x248002 => if x47 = true then (some (0, 0, ([] : List (S32)), 15)) else (if 0 ≤ (x247002.length : Int) then (if ((x247002.length : Int) : Int).toNat ≤ 8796093022208 then (blend_Image.l0 k x0 x1 x247002 (x247002.length : Int) 0 x248000 x248001 x248002 x247000 x247001 (List.replicate ((x247002.length : Int) : Int).toNat z32)) else (none)) else (none))
def blend_Image.l0 : Nat → Int → Int → List (S32) → Int → Int → Int → Int → List (S32) → Int → Int → List (S32) → Option (Int × Int × (List (S32)) × Int)
  | 0, _, _, _, _, _, _, _, _, _, _, _ => none
  | k + 1, x0, x1, x59, x60, x61, x248000, x248001, x248002, x257000, x257001, x257002 => if x61 < x60 then (if 0 ≤ x61 then (if x61 < (x59.length : Int) then (if x61 < (x248002.length : Int) then ((pixel_Fade.f ((rd_T32 x248002 x61).f0) ((rd_T32 x248002 x61).f1) ((rd_T32 x248002 x61).f2) ((rd_T32 x248002 x61).f3) x1).bind fun bt260 => ((blend_Over.f k x0 ((rd_T32 x59 x61).f0) ((rd_T32 x59 x61).f1) ((rd_T32 x59 x61).f2) ((rd_T32 x59 x61).f3) bt260.1 bt260.2.1 bt260.2.2.1 bt260.2.2.2).bind fun bt264 => (if x61 < (x257002.length : Int) then (blend_Image.l0 k x0 x1 x59 x60 (wrap64 (x61 + 1)) x248000 x248001 x248002 x257000 x257001 (x257002.set (x61 : Int).toNat (⟨bt264.1, bt264.2.1, bt264.2.2.1, bt264.2.2.2⟩ : S32))) else (none)))) else (none)) else (none)) else (none)) else (some (x257000, x257001, x257002, 0))
end
def blend_Image.f (k : Nat) (a0 : Int) (a1 : Int) (a2_0 : Int) (a2_1 : Int) (l2_2 : List (S32)) (a3_0 : Int) (a3_1 : Int) (l3_2 : List (S32)) : Option (Int × Int × (List (S32)) × Int) := (blend_Valid.f a0).bind fun t249 => (if t249 = true then ((blend_unit.f a1).bind fun t250 => (if a1 = t250 then ((blend_check.f k a2_0 a2_1 l2_2).bind fun t251 => (if t251 = 0 then ((blend_check.f k a3_0 a3_1 l3_2).bind fun t252 => (if t252 = 0 then (if a2_0 = a3_0 then (blend_Image.j0 k a0 a1 (a2_1 != a3_1) a2_0 a2_1 l2_2 a3_0 a3_1 l3_2) else (blend_Image.j0 k a0 a1 true a2_0 a2_1 l2_2 a3_0 a3_1 l3_2)) else (some (0, 0, ([] : List (S32)), t252)))) else (some (0, 0, ([] : List (S32)), t251)))) else (some (0, 0, ([] : List (S32)), 2)))) else (some (0, 0, ([] : List (S32)), 8)))
theorem blend_Image.mono_l : ∀ k, (∀ y0 y1 y2 y3 y4 y5 y6 y7 y8, LeO (blend_Image.j0 k y0 y1 y2 y3 y4 y5 y6 y7 y8) (blend_Image.j0 (k + 1) y0 y1 y2 y3 y4 y5 y6 y7 y8)) ∧ (∀ y0 y1 y2 y3 y4 y5 y6 y7 y8 y9 y10, LeO (blend_Image.l0 k y0 y1 y2 y3 y4 y5 y6 y7 y8 y9 y10) (blend_Image.l0 (k + 1) y0 y1 y2 y3 y4 y5 y6 y7 y8 y9 y10))
  | 0 => ⟨fun _ _ _ _ _ _ _ _ _ r h => by simp [blend_Image.j0] at h, fun _ _ _ _ _ _ _ _ _ _ _ r h => by simp [blend_Image.l0] at h⟩
  | k + 1 => by
    obtain ⟨ih0, ih1⟩ := blend_Image.mono_l k
    refine ⟨?_, ?_⟩
    · intro y0 y1 y2 y3 y4 y5 y6 y7 y8
      unfold blend_Image.j0
      repeat' first
      | (with_reducible exact ih0 _ _ _ _ _ _ _ _ _)
      | (with_reducible exact ih1 _ _ _ _ _ _ _ _ _ _ _)
      | (with_reducible exact blend_Over.mono _ _ _ _ _ _ _ _ _ _)
      | (with_reducible exact blend_check.mono _ _ _ _)
      | (with_reducible exact LeO.refl _)
      | (with_reducible exact LeO.none _)
      | (with_reducible refine LeO.ite ?_ ?_)
      | (with_reducible refine LeO.bind ?_ (fun _ => ?_))
      | exact ih0 _ _ _ _ _ _ _ _ _
      | exact ih1 _ _ _ _ _ _ _ _ _ _ _
      | exact blend_Over.mono _ _ _ _ _ _ _ _ _ _
      | exact blend_check.mono _ _ _ _
      | exact LeO.none _
      | refine LeO.ite ?_ ?_
      | refine LeO.bind ?_ (fun _ => ?_)
    · intro y0 y1 y2 y3 y4 y5 y6 y7 y8 y9 y10
      unfold blend_Image.l0
      repeat' first
      | (with_reducible exact ih0 _ _ _ _ _ _ _ _ _)
      | (with_reducible exact ih1 _ _ _ _ _ _ _ _ _ _ _)
      | (with_reducible exact blend_Over.mono _ _ _ _ _ _ _ _ _ _)
      | (with_reducible exact blend_check.mono _ _ _ _)
      | (with_reducible exact LeO.refl _)
      | (with_reducible exact LeO.none _)
      | (with_reducible refine LeO.ite ?_ ?_)
      | (with_reducible refine LeO.bind ?_ (fun _ => ?_))
      | exact ih0 _ _ _ _ _ _ _ _ _
      | exact ih1 _ _ _ _ _ _ _ _ _ _ _
      | exact blend_Over.mono _ _ _ _ _ _ _ _ _ _
      | exact blend_check.mono _ _ _ _
      | exact LeO.none _
      | refine LeO.ite ?_ ?_
      | refine LeO.bind ?_ (fun _ => ?_)
theorem blend_Image.mono : ∀ a0 a1 a2 a3 a4 a5 a6 a7 k, LeO (blend_Image.f k a0 a1 a2 a3 a4 a5 a6 a7) (blend_Image.f (k + 1) a0 a1 a2 a3 a4 a5 a6 a7) := by
  intro a0 a1 a2 a3 a4 a5 a6 a7 k
  obtain ⟨ih0, ih1⟩ := blend_Image.mono_l k
  unfold blend_Image.f
  repeat' first
      | (with_reducible exact ih0 _ _ _ _ _ _ _ _ _)
      | (with_reducible exact ih1 _ _ _ _ _ _ _ _ _ _ _)
      | (with_reducible exact blend_Over.mono _ _ _ _ _ _ _ _ _ _)
      | (with_reducible exact blend_check.mono _ _ _ _)
      | (with_reducible exact LeO.refl _)
      | (with_reducible exact LeO.none _)
      | (with_reducible refine LeO.ite ?_ ?_)
      | (with_reducible refine LeO.bind ?_ (fun _ => ?_))
      | exact ih0 _ _ _ _ _ _ _ _ _
      | exact ih1 _ _ _ _ _ _ _ _ _ _ _
      | exact blend_Over.mono _ _ _ _ _ _ _ _ _ _
      | exact blend_check.mono _ _ _ _
      | exact LeO.none _
      | refine LeO.ite ?_ ?_
      | refine LeO.bind ?_ (fun _ => ?_)
def blend_Image.T13 : Bool × List (List Nat × List Nat) := (true, [([], []), ([0], [0]), ([], []), ([2], [2]), ([], []), ([4], [4]), ([5], [5]), ([6, 6], [6]), ([1, 3, 7], [1, 3, 7]), ([], []), ([9, 8, 0, 1, 2, 3, 4, 5, 6, 7, 8, 9], [8, 9])])
def blend_Image.B13 : List Nat := [0, 1, 0, 4, 0, 16, 48, 112, 255, 0, 1023]
theorem blend_Image.tab13 : rtab .any (opsOf Try.f12 13) = blend_Image.T13 := by kernel_rfl
theorem blend_Image.bits13 : waitsOk blend_Image.T13.2 blend_Image.B13 = true := by kernel_rfl
def blend_Image.T17 : Bool × List (List Nat × List Nat) := (true, [([], []), ([0], [0]), ([], []), ([], []), ([], []), ([], []), ([5], [5]), ([], []), ([6, 7], [6, 7]), ([8], [8]), ([], []), ([9, 10], [9, 10]), ([3, 4, 11, 11], [3, 4, 11]), ([1, 2, 0, 1, 2, 3, 4, 5, 6, 7, 8, 9, 10, 11, 12], [1, 2]), ([13, 12, 12, 0, 1, 2, 3, 4, 5, 6, 7, 8, 9, 10, 11, 12], [12, 13])])
def blend_Image.B17 : List Nat := [0, 1, 0, 0, 0, 0, 32, 0, 224, 480, 0, 2016, 4088, 8191, 16383]
theorem blend_Image.tab17 : rtab .any (opsOf Try.f12 17) = blend_Image.T17 := by kernel_rfl
theorem blend_Image.bits17 : waitsOk blend_Image.T17.2 blend_Image.B17 = true := by kernel_rfl
set_option maxHeartbeats 8000000 in
set_option maxRecDepth 100000 in
theorem blend_Image.calls (k : Nat) (a0 : Int) (a1 : Int) (a2_0 : Int) (a2_1 : Int) (A2_2 : Option Addr) (c2_2 : Nat) (l2_2 : List (S32)) (a3_0 : Int) (a3_1 : Int) (A3_2 : Option Addr) (c3_2 : Nat) (l3_2 : List (S32)) (r1 : Int) (r2 : Int) (r3 : List (S32)) (r4 : Int) (w : World) (hr2_2 : Kd.C k32 w A2_2 l2_2.length l2_2) (hc2_2 : l2_2.length ≤ c2_2) (hr3_2 : Kd.C k32 w A3_2 l3_2.length l3_2) (hc3_2 : l3_2.length ≤ c3_2) (h : blend_Image.f k a0 a1 a2_0 a2_1 l2_2 a3_0 a3_1 l3_2 = some (r1, r2, r3, r4)) :
    Calls Try.prog 12 #[.int .i64 a0, .int .i64 a1, .agg #[.int .i64 a2_0, .int .i64 a2_1, .slice A2_2 l2_2.length c2_2], .agg #[.int .i64 a3_0, .int .i64 a3_1, .slice A3_2 l3_2.length c3_2]] w fun e w' => ∃ v2_ : Value, e = .returned (.tuple #[.agg #[.int .i64 r1, .int .i64 r2, v2_], .int .i64 r4]) ∧ Kd.R k32 32 w' w.heap.size (fun _ => True) v2_ r3 ∧ Below w.heap.size w w' := by
 have hu24 := Try.underlying24
 have hu32 := Try.underlying32
 have HR2_2 := Aside0.mk hr2_2
 have HC2_2 := Aside0.mk hc2_2
 clear hr2_2 hc2_2
 have HR3_2 := Aside0.mk hr3_2
 have HC3_2 := Aside0.mk hc3_2
 clear hr3_2 hc3_2
 have HB := Aside0.mk (Below.refl w.heap.size w)
 have H : ((blend_Valid.f a0).bind fun t249 => (if t249 = true then ((blend_unit.f a1).bind fun t250 => (if a1 = t250 then ((blend_check.f k a2_0 a2_1 l2_2).bind fun t251 => (if t251 = 0 then ((blend_check.f k a3_0 a3_1 l3_2).bind fun t252 => (if t252 = 0 then (if a2_0 = a3_0 then (blend_Image.j0 k a0 a1 (a2_1 != a3_1) a2_0 a2_1 l2_2 a3_0 a3_1 l3_2) else (blend_Image.j0 k a0 a1 true a2_0 a2_1 l2_2 a3_0 a3_1 l3_2)) else (some (0, 0, ([] : List (S32)), t252)))) else (some (0, 0, ([] : List (S32)), t251)))) else (some (0, 0, ([] : List (S32)), 2)))) else (some (0, 0, ([] : List (S32)), 8)))) = some (r1, r2, r3, r4) := h
 clear h
 replace H := Option.bind_eq_some_iff.mp H
 obtain ⟨t249, A50, H⟩ := H
 replace H : (if t249 = true then ((blend_unit.f a1).bind fun t250 => (if a1 = t250 then ((blend_check.f k a2_0 a2_1 l2_2).bind fun t251 => (if t251 = 0 then ((blend_check.f k a3_0 a3_1 l3_2).bind fun t252 => (if t252 = 0 then (if a2_0 = a3_0 then (blend_Image.j0 k a0 a1 (a2_1 != a3_1) a2_0 a2_1 l2_2 a3_0 a3_1 l3_2) else (blend_Image.j0 k a0 a1 true a2_0 a2_1 l2_2 a3_0 a3_1 l3_2)) else (some (0, 0, ([] : List (S32)), t252)))) else (some (0, 0, ([] : List (S32)), t251)))) else (some (0, 0, ([] : List (S32)), 2)))) else (some (0, 0, ([] : List (S32)), 8))) = some (r1, r2, r3, r4) := H
 have A5 := Aside0.mk A50
 clear A50
 by_cases c6 : t249 = true
 ·subst c6
  have H1 : ((blend_unit.f a1).bind fun t250 => (if a1 = t250 then ((blend_check.f k a2_0 a2_1 l2_2).bind fun t251 => (if t251 = 0 then ((blend_check.f k a3_0 a3_1 l3_2).bind fun t252 => (if t252 = 0 then (if a2_0 = a3_0 then (blend_Image.j0 k a0 a1 (a2_1 != a3_1) a2_0 a2_1 l2_2 a3_0 a3_1 l3_2) else (blend_Image.j0 k a0 a1 true a2_0 a2_1 l2_2 a3_0 a3_1 l3_2)) else (some (0, 0, ([] : List (S32)), t252)))) else (some (0, 0, ([] : List (S32)), t251)))) else (some (0, 0, ([] : List (S32)), 2)))) = some (r1, r2, r3, r4) := by rw [if_pos rfl] at H; exact H
  clear H
  have H := H1
  clear H1
  replace H := Option.bind_eq_some_iff.mp H
  obtain ⟨t250, A70, H⟩ := H
  replace H : (if a1 = t250 then ((blend_check.f k a2_0 a2_1 l2_2).bind fun t251 => (if t251 = 0 then ((blend_check.f k a3_0 a3_1 l3_2).bind fun t252 => (if t252 = 0 then (if a2_0 = a3_0 then (blend_Image.j0 k a0 a1 (a2_1 != a3_1) a2_0 a2_1 l2_2 a3_0 a3_1 l3_2) else (blend_Image.j0 k a0 a1 true a2_0 a2_1 l2_2 a3_0 a3_1 l3_2)) else (some (0, 0, ([] : List (S32)), t252)))) else (some (0, 0, ([] : List (S32)), t251)))) else (some (0, 0, ([] : List (S32)), 2))) = some (r1, r2, r3, r4) := H
  have A7 := Aside0.mk A70
  clear A70
  by_cases c8 : a1 = t250
  ·rw [if_pos c8] at H
   have c8b0 : (a1 == t250) = true := beq_iff_eq.mpr c8
   have c8b1 : (a1 != t250) = false := bne_eq_false_iff_eq.mpr c8
   clear c8
   replace H := Option.bind_eq_some_iff.mp H
   obtain ⟨t251, A90, H⟩ := H
   replace H : (if t251 = 0 then ((blend_check.f k a3_0 a3_1 l3_2).bind fun t252 => (if t252 = 0 then (if a2_0 = a3_0 then (blend_Image.j0 k a0 a1 (a2_1 != a3_1) a2_0 a2_1 l2_2 a3_0 a3_1 l3_2) else (blend_Image.j0 k a0 a1 true a2_0 a2_1 l2_2 a3_0 a3_1 l3_2)) else (some (0, 0, ([] : List (S32)), t252)))) else (some (0, 0, ([] : List (S32)), t251))) = some (r1, r2, r3, r4) := H
   have A9 := Aside0.mk A90
   clear A90
   by_cases c10 : t251 = 0
   ·rw [if_pos c10] at H
    have c10b0 : (t251 == 0) = true := beq_iff_eq.mpr c10
    have c10b1 : (t251 != 0) = false := bne_eq_false_iff_eq.mpr c10
    clear c10
    replace H := Option.bind_eq_some_iff.mp H
    obtain ⟨t252, A110, H⟩ := H
    replace H : (if t252 = 0 then (if a2_0 = a3_0 then (blend_Image.j0 k a0 a1 (a2_1 != a3_1) a2_0 a2_1 l2_2 a3_0 a3_1 l3_2) else (blend_Image.j0 k a0 a1 true a2_0 a2_1 l2_2 a3_0 a3_1 l3_2)) else (some (0, 0, ([] : List (S32)), t252))) = some (r1, r2, r3, r4) := H
    have A11 := Aside0.mk A110
    clear A110
    by_cases c12 : t252 = 0
    ·rw [if_pos c12] at H
     have c12b0 : (t252 == 0) = true := beq_iff_eq.mpr c12
     have c12b1 : (t252 != 0) = false := bne_eq_false_iff_eq.mpr c12
     clear c12
     have HC13 := Aside0.mk H
     clear H
     go_enter Try.func12, Try.ntmps12
     go_upto_region 11 with (first | ((with_reducible refine gate_dst (N := 6) rfl ?_); refine box_event ?hg (N := 6) ?hd (cs := #[.int .i64 a2_0, .int .i64 a2_1, .slice A2_2 l2_2.length c2_2]) (t := 24) ?hr ?_; (case hd => rfl); (case hg => rfl); (case hr => first | (go_simp; done) | (go_simp; rfl)); intro gB hg w14 hbox hb; have KB := Aside0.mk hbox; have GWB := ge_ hg (pb HB.out); have GEB := ge_ hg (pb HB.out); replace HB := Aside0.mk (below_step (pb HB.out) hb); clear hb hbox hg) | ((with_reducible refine gate_dst (N := 7) rfl ?_); refine box_event ?hg (N := 7) ?hd (cs := #[.int .i64 a3_0, .int .i64 a3_1, .slice A3_2 l3_2.length c3_2]) (t := 24) ?hr ?_; (case hd => rfl); (case hg => rfl); (case hr => first | (go_simp; done) | (go_simp; rfl)); intro gC hg w15 hbox hb; have c0_ := cp_ hb KB; have KC := Aside0.mk hbox; have GWC := ge_ hg (pb1 HB.out GEB.out); have GEC := ge_ hg (pb1 HB.out GEB.out); have NBC := nl_ hg c0_; have NCB := ng_ hg c0_; replace KB := bb_ c0_ hb; replace HB := Aside0.mk (below_step (pb1 HB.out GEB.out) hb); clear c0_; clear hb hbox hg) | ((with_reducible refine gate_dst (N := 8) rfl ?_); refine box_event ?hg (N := 8) ?hd (cs := #[.int .i64 0, .int .i64 0, .slice none 0 0]) (t := 24) ?hr ?_; (case hd => rfl); (case hg => rfl); (case hr => first | (go_simp; done) | (go_simp; rfl)); intro gD hg w16 hbox hb; have c0_ := cp_ hb KB; have c1_ := cp_ hb KC; have KD := Aside0.mk hbox; have GWD := ge_ hg (pb2 HB.out GEB.out GEC.out); have GED := ge_ hg (pb2 HB.out GEB.out GEC.out); have NBD := nl_ hg c0_; have NDB := ng_ hg c0_; have NCD := nl_ hg c1_; have NDC := ng_ hg c1_; replace KB := bb_ c0_ hb; replace KC := bb_ c1_ hb; replace HB := Aside0.mk (below_step (pb2 HB.out GEB.out GEC.out) hb); clear c0_ c1_; clear hb hbox hg) | ((with_reducible refine gate_callee (f := 18) rfl ?_); refine goesL_ (some 16) rfl rfl Try.func18 (by kernel_rfl) rfl #[.int .i64 a0] rfl pm ?_; (with_reducible refine (blend_Valid.calls a0 true _ A5.out).mono ?_); rintro e w' ⟨rfl, ⟨nd, rfl⟩⟩; refine ⟨_, rfl, ?_⟩) | ((with_reducible refine gate_callee (f := 32) rfl ?_); refine goesL_ (some 21) rfl rfl Try.func32 (by kernel_rfl) rfl #[.int .i64 a1] rfl pm ?_; (with_reducible refine (blend_unit.calls a1 t250 _ A7.out).mono ?_); rintro e w17 ⟨rfl, hb⟩; refine ⟨_, rfl, ?_⟩; replace KB := bp_ KB hb; replace KC := bp_ KC hb; replace KD := bp_ KD hb; replace HB := Aside0.mk (below_step (pb3 HB.out GEB.out GEC.out GED.out) hb); (try clear hb); (try clear hb2); (try clear hk); (try clear hi); have hnb18 := NBC.out; have hnc18 := NCB.out; have hnb19 := NBD.out; have hnc19 := NDB.out; have hcz20_0 := ci_ KB 0 (.int .i64 a2_0); have hcz20_1 := ci_ KB 1 (.int .i64 a2_1); have hcz20_2 := ci_ KB 2 (.slice A2_2 l2_2.length c2_2); have hfz20_0 := blk_frozen KB.out 0; have hfz20_1 := blk_frozen KB.out 1; have hfz20_2 := blk_frozen KB.out 2) | ((with_reducible refine gate_callee (f := 33) rfl ?_); refine goesL_ (some 25) rfl rfl Try.func33 (by kernel_rfl) rfl #[.agg #[.int .i64 a2_0, .int .i64 a2_1, .slice A2_2 l2_2.length c2_2]] rfl pm ?_; (with_reducible refine (blend_check.calls k a2_0 a2_1 _ _ l2_2 t251 _ ?side1 ?side2 A9.out).mono ?_); (case side1 => repeat (first | exact (Kd.C_below HR2_2.out HB.out) | (with_reducible refine Kd.C_alloc ?_ _) | (with_reducible refine Kd.C_drewN ?_ _) | (with_reducible refine Kd.C_drew ?_))); (case side2 => exact HC2_2.out); rintro e w21 ⟨rfl, hb⟩; refine ⟨_, rfl, ?_⟩; replace KB := bp_ KB hb; replace KC := bp_ KC hb; replace KD := bp_ KD hb; replace HB := Aside0.mk (below_step (pb3 HB.out GEB.out GEC.out GED.out) hb); (try clear hb); (try clear hb2); (try clear hk); (try clear hi); have hnb22 := NCD.out; have hnc22 := NDC.out; have hcz23_0 := ci_ KC 0 (.int .i64 a3_0); have hcz23_1 := ci_ KC 1 (.int .i64 a3_1); have hcz23_2 := ci_ KC 2 (.slice A3_2 l3_2.length c3_2); have hfz23_0 := blk_frozen KC.out 0; have hfz23_1 := blk_frozen KC.out 1; have hfz23_2 := blk_frozen KC.out 2) | ((with_reducible refine gate_callee (f := 33) rfl ?_); refine goesL_ (some 31) rfl rfl Try.func33 (by kernel_rfl) rfl #[.agg #[.int .i64 a3_0, .int .i64 a3_1, .slice A3_2 l3_2.length c3_2]] rfl pm ?_; (with_reducible refine (blend_check.calls k a3_0 a3_1 _ _ l3_2 t252 _ ?side1 ?side2 A11.out).mono ?_); (case side1 => repeat (first | exact (Kd.C_below HR3_2.out HB.out) | (with_reducible refine Kd.C_alloc ?_ _) | (with_reducible refine Kd.C_drewN ?_ _) | (with_reducible refine Kd.C_drew ?_))); (case side2 => exact HC3_2.out); rintro e w24 ⟨rfl, hb⟩; refine ⟨_, rfl, ?_⟩; replace KB := bp_ KB hb; replace KC := bp_ KC hb; replace KD := bp_ KD hb; replace HB := Aside0.mk (below_step (pb3 HB.out GEB.out GEC.out GED.out) hb); (try clear hb); (try clear hb2); (try clear hk); (try clear hi)))
     (try simp only [Act.put, List.setIfInBounds_toArray, List.set_cons_zero, List.set_cons_succ])
     go_cut [47] (fun v47 wc => ∃ (kq : Nat) (x47_12 : Bool), v47 = .bool x47_12 ∧ Aside0 (blend_Image.j0 kq a0 a1 x47_12 a2_0 a2_1 l2_2 a3_0 a3_1 l3_2 = some (r1, r2, r3, r4)) ∧ Aside0 (kq ≤ k) ∧ Aside0 (wc.heap[gB]? = some (.cells #[.int .i64 a2_0, .int .i64 a2_1, (.slice A2_2 l2_2.length c2_2)] 24 (0, 0))) ∧ Aside0 (wc.heap[gC]? = some (.cells #[.int .i64 a3_0, .int .i64 a3_1, (.slice A3_2 l3_2.length c3_2)] 24 (0, 0))) ∧ Aside0 (wc.heap[gD]? = some (.cells #[.int .i64 0, .int .i64 0, (.slice none 0 0)] 24 (0, 0))) ∧ Aside0 (Below w.heap.size w wc))
     case first =>
      have H := HC13.out
      clear HC13
      by_cases c25 : a2_0 = a3_0
      ·rw [if_pos c25] at H
       have c25b0 : (a2_0 == a3_0) = true := beq_iff_eq.mpr c25
       have c25b1 : (a2_0 != a3_0) = false := bne_eq_false_iff_eq.mpr c25
       clear c25
       (first | rw [c25b0] | (simp only [i64_w, i32_w]; rw [c25b0]) | skip)
       have H' := Aside0.mk H
       clear H
       have hnb26 := NBC.out
       have hnc26 := NCB.out
       have hnb27 := NBD.out
       have hnc27 := NDB.out
       have hcz28_0 := ci_ KB 0 (.int .i64 a2_0)
       have hcz28_1 := ci_ KB 1 (.int .i64 a2_1)
       have hcz28_2 := ci_ KB 2 (.slice A2_2 l2_2.length c2_2)
       have hfz28_0 := blk_frozen KB.out 0
       have hfz28_1 := blk_frozen KB.out 1
       have hfz28_2 := blk_frozen KB.out 2
       have hnb29 := NCD.out
       have hnc29 := NDC.out
       have hcz30_0 := ci_ KC 0 (.int .i64 a3_0)
       have hcz30_1 := ci_ KC 1 (.int .i64 a3_1)
       have hcz30_2 := ci_ KC 2 (.slice A3_2 l3_2.length c3_2)
       have hfz30_0 := blk_frozen KC.out 0
       have hfz30_1 := blk_frozen KC.out 1
       have hfz30_2 := blk_frozen KC.out 2
       go_wp2
       go_meet
       case rel => exact ⟨_, ((a2_1 != a3_1)), (by first | rfl | (simp; done) | (simp [*]; done)), H', ⟨by first | omega | exact Nat.le_refl _⟩, ⟨pl KB.out⟩, ⟨pl KC.out⟩, ⟨pl KD.out⟩, ⟨pb3 HB.out GEB.out GEC.out GED.out⟩⟩
      ·rw [if_neg c25] at H
       have c25b0 : (a2_0 == a3_0) = false := beq_eq_false_iff_ne.mpr c25
       have c25b1 : (a2_0 != a3_0) = true := bne_iff_ne.mpr c25
       (first | rw [c25b0] | (simp only [i64_w, i32_w]; rw [c25b0]) | skip)
       have H' := Aside0.mk H
       clear H
       have hnb31 := NBC.out
       have hnc31 := NCB.out
       have hnb32 := NBD.out
       have hnc32 := NDB.out
       have hcz33_0 := ci_ KB 0 (.int .i64 a2_0)
       have hcz33_1 := ci_ KB 1 (.int .i64 a2_1)
       have hcz33_2 := ci_ KB 2 (.slice A2_2 l2_2.length c2_2)
       have hfz33_0 := blk_frozen KB.out 0
       have hfz33_1 := blk_frozen KB.out 1
       have hfz33_2 := blk_frozen KB.out 2
       have hnb34 := NCD.out
       have hnc34 := NDC.out
       have hcz35_0 := ci_ KC 0 (.int .i64 a3_0)
       have hcz35_1 := ci_ KC 1 (.int .i64 a3_1)
       have hcz35_2 := ci_ KC 2 (.slice A3_2 l3_2.length c3_2)
       have hfz35_0 := blk_frozen KC.out 0
       have hfz35_1 := blk_frozen KC.out 1
       have hfz35_2 := blk_frozen KC.out 2
       go_wp2
       go_meet
       case rel => exact ⟨_, (true), (by first | rfl | (simp; done) | (simp [*]; done)), H', ⟨by first | omega | exact Nat.le_refl _⟩, ⟨pl KB.out⟩, ⟨pl KC.out⟩, ⟨pl KD.out⟩, ⟨pb3 HB.out GEB.out GEC.out GED.out⟩⟩
     case rest =>
      clear HC13
      try clear c1
      try clear c2
      try clear p2
      try clear c3
      try clear c6
      try clear c8
      try clear c8b0
      try clear c8b1
      try clear c10
      try clear c10b0
      try clear c10b1
      try clear c12
      try clear c12b0
      try clear c12b1
      try clear c18
      try clear c19
      try clear c22
      try clear c25
      try clear c25b0
      try clear c25b1
      try clear c26
      try clear c27
      try clear c29
      try clear c31
      try clear c32
      try clear c33
      try clear c34
      try clear hcz20_0
      try clear hcz20_1
      try clear hcz20_2
      try clear hcz23_0
      try clear hcz23_1
      try clear hcz23_2
      try clear hcz28_0
      try clear hcz28_1
      try clear hcz28_2
      try clear hcz30_0
      try clear hcz30_1
      try clear hcz30_2
      try clear hcz33_0
      try clear hcz33_1
      try clear hcz33_2
      try clear hcz35_0
      try clear hcz35_1
      try clear hcz35_2
      try clear hfz20_0
      try clear hfz20_1
      try clear hfz20_2
      try clear hfz23_0
      try clear hfz23_1
      try clear hfz23_2
      try clear hfz28_0
      try clear hfz28_1
      try clear hfz28_2
      try clear hfz30_0
      try clear hfz30_1
      try clear hfz30_2
      try clear hfz33_0
      try clear hfz33_1
      try clear hfz33_2
      try clear hfz35_0
      try clear hfz35_1
      try clear hfz35_2
      obtain ⟨kq, x47_12, rfl, HA, HJ12, KB, KC, KD, HB⟩ := hcut
      cases kq with
      | zero => exact absurd HA.out (by simp [blend_Image.j0])
      | succ kj12 =>
       have H := HA.out
       clear HA
       simp only [blend_Image.j0] at H
       by_cases c36 : x47_12 = true
       ·subst c36
        have H1 : (some (0, 0, ([] : List (S32)), 15)) = some (r1, r2, r3, r4) := by rw [if_pos rfl] at H; exact H
        clear H
        have H := H1
        clear H1
        simp only [Option.some.injEq, Prod.mk.injEq] at H
        obtain ⟨rfl, rfl, rfl, rfl⟩ := H
        have hnb37 := NDB.out
        have hnc37 := NBD.out
        have hnb38 := NDC.out
        have hnc38 := NCD.out
        have hcz39_0 := ci_ KD 0 (.int .i64 0)
        have hcz39_1 := ci_ KD 1 (.int .i64 0)
        have hcz39_2 := ci_ KD 2 (.slice none 0 0)
        have hfz39_0 := blk_frozen KD.out 0
        have hfz39_1 := blk_frozen KD.out 1
        have hfz39_2 := blk_frozen KD.out 2
        go_wp2
        refine bodyPost_ret (results_ct rfl _ _ gD 24 #[.int .i64 0, .int .i64 0, .slice none 0 0] (0, 0) _ rfl (by refine pl ?_; refine blk_put (cs := #[.int .i64 0, .int .i64 0, .slice none 0 0]) ?_ 2 _ rfl; refine pl ?_; refine blk_put (cs := #[.int .i64 0, .int .i64 0, .slice none 0 0]) ?_ 1 _ rfl; refine pl ?_; refine blk_put (cs := #[.int .i64 0, .int .i64 0, .slice none 0 0]) ?_ 0 _ rfl; refine pl ?_; exact KD.out) Try.underlying24 rfl (by kernel_rfl)) rfl ?_
        exact ⟨_, by first | rfl | (simp [errW_none, errW_some] <;> rfl) | (simp [*, errW_none, errW_some] <;> rfl), by first | exact Kd.R_nil _ _ _ _ _ | exact Kd.N_nil _ _ _ _ _ | exact Kd.V_nil _ _ _ _ _ | exact Kd.Q_nil _ _ _ _ _ | exact Kd.S_nil _ _ _ _ _, pb3 HB.out GEB.out GEC.out GED.out⟩
       ·replace c36 := Bool.eq_false_iff.mpr c36
        subst c36
        have H1 : (if 0 ≤ (l2_2.length : Int) then (if ((l2_2.length : Int) : Int).toNat ≤ 8796093022208 then (blend_Image.l0 kj12 a0 a1 l2_2 (l2_2.length : Int) 0 a3_0 a3_1 l3_2 a2_0 a2_1 (List.replicate ((l2_2.length : Int) : Int).toNat z32)) else (none)) else (none)) = some (r1, r2, r3, r4) := by rw [if_neg (show ¬ (false = true) by decide)] at H; exact H
        clear H
        have H := H1
        clear H1
        by_cases c40 : 0 ≤ (l2_2.length : Int)
        rotate_left
        ·rw [if_neg c40] at H
         exact absurd H (by simp)
        rw [if_pos c40] at H
        have c40b0 := eq_true c40
        have c40b1 : decide (0 ≤ (l2_2.length : Int)) = true := decide_eq_true c40
        clear c40
        by_cases c41 : ((l2_2.length : Int) : Int).toNat ≤ 8796093022208
        rotate_left
        ·rw [if_neg c41] at H
         exact absurd H (by simp)
        rw [if_pos c41] at H
        have c41b0 := eq_true c41
        have c41b1 : decide (((l2_2.length : Int) : Int).toNat ≤ 8796093022208) = true := decide_eq_true c41
        clear c41
        obtain ⟨y253, hy253⟩ : ∃ y_ : List (S32), y_ = (List.replicate ((l2_2.length : Int) : Int).toNat z32) := ⟨_, rfl⟩
        replace H : (blend_Image.l0 kj12 a0 a1 l2_2 (l2_2.length : Int) 0 a3_0 a3_1 l3_2 a2_0 a2_1 y253) = some (r1, r2, r3, r4) := by first | (rw [hy253]; with_reducible exact H) | (have H2_ := (Option.bind_some _ _).symm.trans H; rw [hy253]; with_reducible exact H2_) | (have H2_ := (Option.bind_some _ _).symm.trans H; with_reducible exact H2_) | with_reducible exact H | (rw [hy253]; exact H) | exact H
        have Ny253 := Aside0.mk hy253
        clear hy253
        have H' := Aside0.mk H
        clear H
        try go_wp2
        replace KB := Aside0.mk (blk_drew KB.out)
        replace KC := Aside0.mk (blk_drew KC.out)
        replace KD := Aside0.mk (blk_drew KD.out)
        replace HB := Aside0.mk (below_drew1 HB.out)
        refine start_ (n := 11) (S := fun w' => w'.cell? ⟨gB, 0, none⟩ = some (.int .i64 a2_0) ∧ w'.cell? ⟨gB, 1, none⟩ = some (.int .i64 a2_1) ∧ w'.cell? ⟨gB, 2, none⟩ = some (.slice A2_2 l2_2.length c2_2)) (ds := []) #[false, false, false, false, false, false, false, false, false, false, false] (by kernel_rfl) rfl rfl ⟨(blk_cell KB.out 0).trans rfl, (blk_cell KB.out 1).trans rfl, (blk_cell KB.out 2).trans rfl⟩ (fun hHeld => ?_); refine with_tabW blend_Image.tab13 blend_Image.bits13 (fun HT_ HW_ => ?_)
        generalize wc.drew = w42 at KB KC KD HB hHeld ⊢
        refine pure_ (i := 0) (N := some 49) (v := ?_) (a' := ?_) #[true, false, false, false, false, false, false, false, false, false, false] rfl rfl (any_of HT_.out (by kernel_rfl)) (fun _ _ _ h => h) (Or.inl ⟨by rfl, ?_⟩) ?_ ?_
        rotate_left
        ·intro w'
         go_simp
         with_reducible rfl
        rotate_left
        ·refine ps ?_
         rfl
        refine pure_ (i := 2) (N := some 51) (v := ?_) (a' := ?_) #[true, false, true, false, false, false, false, false, false, false, false] rfl rfl (any_of HT_.out (by kernel_rfl)) (fun _ _ _ h => h) (Or.inl ⟨by rfl, ?_⟩) ?_ ?_
        rotate_left
        ·intro w'
         go_simp
         with_reducible rfl
        rotate_left
        ·refine ps ?_
         rfl
        refine pure_ (i := 4) (N := some 53) (v := ?_) (a' := ?_) #[true, false, true, false, true, false, false, false, false, false, false] rfl rfl (any_of HT_.out (by kernel_rfl)) (fun _ _ _ h => h) (Or.inl ⟨by rfl, ?_⟩) ?_ ?_
        rotate_left
        ·intro w'
         go_simp
         with_reducible rfl
        rotate_left
        ·refine ps ?_
         rfl
        refine take_ (i := 1) (N := some 50) (v := ?_) (a' := ?_) #[true, true, true, false, true, false, false, false, false, false, false] rfl rfl (take_ofW HT_.out HW_.out (by kernel_rfl)) (fun _ _ _ h => h) (Or.inl ⟨by rfl, ?_⟩) hHeld ?_ ?_
        rotate_left
        ·rintro w' ⟨s0, s1, s2⟩
         go_simp
         with_reducible rfl
        rotate_left
        ·refine ps ?_
         rfl
        refine take_ (i := 3) (N := some 52) (v := ?_) (a' := ?_) #[true, true, true, true, true, false, false, false, false, false, false] rfl rfl (take_ofW HT_.out HW_.out (by kernel_rfl)) (fun _ _ _ h => h) (Or.inl ⟨by rfl, ?_⟩) hHeld ?_ ?_
        rotate_left
        ·rintro w' ⟨s0, s1, s2⟩
         go_simp
         with_reducible rfl
        rotate_left
        ·refine ps ?_
         rfl
        refine take_ (i := 5) (N := some 54) (v := ?_) (a' := ?_) #[true, true, true, true, true, true, false, false, false, false, false] rfl rfl (take_ofW HT_.out HW_.out (by kernel_rfl)) (fun _ _ _ h => h) (Or.inl ⟨by rfl, ?_⟩) hHeld ?_ ?_
        rotate_left
        ·rintro w' ⟨s0, s1, s2⟩
         go_simp
         with_reducible rfl
        rotate_left
        ·refine ps ?_
         rfl
        refine pure_ (i := 6) (N := some 55) (v := ?_) (a' := ?_) #[true, true, true, true, true, true, true, false, false, false, false] rfl rfl (any_of HT_.out (by kernel_rfl)) (fun _ _ _ h => h) (Or.inl ⟨by rfl, ?_⟩) ?_ ?_
        rotate_left
        ·intro w'
         go_simp
         with_reducible rfl
        rotate_left
        ·refine ps ?_
         rfl
        refine join_ (σ := Value × Nat) 1 #[true, true, true, true, true, true, true, true, true, true, false] (fun s_ => [(56, s_.1), (12, .pointer (some ⟨s_.2, 0, none⟩)), (57, .agg #[.int .i64 a2_0, .int .i64 a2_1, s_.1])]) (fun s_ w' => (w'.cell? ⟨gB, 0, none⟩ = some (.int .i64 a2_0) ∧ w'.cell? ⟨gB, 1, none⟩ = some (.int .i64 a2_1) ∧ w'.cell? ⟨gB, 2, none⟩ = some (.slice A2_2 l2_2.length c2_2)) ∧ (Kd.R k32 32 w' w.heap.size (fun _ => True) s_.1 y253) ∧ (w'.heap[gB]? = some (.cells #[.int .i64 a2_0, .int .i64 a2_1, .slice A2_2 l2_2.length c2_2] 24 (0, 0))) ∧ (w'.heap[gC]? = some (.cells #[.int .i64 a3_0, .int .i64 a3_1, .slice A3_2 l3_2.length c3_2] 24 (0, 0))) ∧ (w'.heap[gD]? = some (.cells #[.int .i64 0, .int .i64 0, .slice none 0 0] 24 (0, 0))) ∧ (w'.heap[s_.2]? = some (.cells #[.int .i64 0, .int .i64 0, .slice none 0 0] 24 (0, 0))) ∧ (w.heap.size ≤ s_.2) ∧ (w.heap.size ≤ s_.2) ∧ (gB ≠ s_.2) ∧ (s_.2 ≠ gB) ∧ (gC ≠ s_.2) ∧ (s_.2 ≠ gC) ∧ (gD ≠ s_.2) ∧ (s_.2 ≠ gD) ∧ (Below w.heap.size w w')) ?_ ?_
        rotate_left
        ·intro hCont
         refine two_ (i := 7) (j := 9) (Ni := some 56) (Nj := some 12) #[true, true, true, true, true, true, true, true, false, false, false] #[true, true, true, true, true, true, true, false, false, true, false] rfl rfl rfl rfl (two_of HT_.out (by kernel_rfl)) (by decide) (by decide) (fun K hK => ?_) (fun K hK => ?_)
         ·skip
          refine Kd.R_make_step k32 _ 32 (by rfl) (N := 56) rfl 22 _ _ rfl (l2_2.length : Int) rfl rfl Try.underlying22 (.agg #[(.int .i64 0), (.int .i64 0), (.int .i64 0), (.int .i64 0)]) 32 info32 rfl (by decide) (by omega) z32 (ok := fun _ => True) (okp := fun _ => True) (k32_mkM _ _ _ z32 ) (fun _ hk => hk) trivial (of_decide_eq_true (by first | (with_reducible assumption) | assumption)) (Nat.le_trans (Nat.mul_le_mul_right _ (of_decide_eq_true (by first | (with_reducible assumption) | assumption) : (l2_2.length : Int).toNat ≤ 8796093022208)) (by omega)) (Below.refl _ _) (Nat.le_refl _) ?_
          intro v254 w43 ho44 hb hg_ hnew_
          clear hg_ hnew_
          (first | rw [← Ny253.out] at ho44 | (simp only [Int.reduceToNat] at ho44; rw [← Ny253.out] at ho44))
          have HO255 := Aside0.mk (Kd.R_lower ho44 (below_size HB.out))
          replace KB := bb_ KB hb
          replace KC := bb_ KC hb
          replace KD := bb_ KD hb
          replace HB := Aside0.mk (below_step HB.out hb)
          clear hb ho44
          obtain ⟨Ao45, co45, eo45⟩ := Kd.R_slice HO255.out
          (first | subst eo45 | (injection eo45 with f1_ f2_ f3_; have f4_ := f1_.symm; have f5_ := f3_.symm; clear f1_ f2_ f3_; subst f4_; subst f5_))
          refine hK.out _ _ ⟨(blk_cell KB.out 0).trans rfl, (blk_cell KB.out 1).trans rfl, (blk_cell KB.out 2).trans rfl⟩ (fun hHeld => ?_)
          clear hK K
          refine norm_ (a' := ?_) ?_ ?_
          rotate_left
          ·show Act.put _ (some 56) _ = _
           refine ps ?_
           rfl
          refine pure_ (i := 8) (N := some 57) (v := ?_) (a' := ?_) #[true, true, true, true, true, true, true, true, true, false, false] rfl rfl (any_of HT_.out (by kernel_rfl)) (fun _ _ _ h => h) (Or.inl ⟨by rfl, ?_⟩) ?_ ?_
          rotate_left
          ·intro w'
           go_simp
           with_reducible rfl
          rotate_left
          ·refine ps ?_
           rfl
          refine one_ (i := 9) (N := some 12) #[true, true, true, true, true, true, true, true, true, true, false] rfl rfl (one_of HT_.out (by kernel_rfl)) (by decide) (fun K hK => ?_)
          refine box_step ?hg (N := 12) ?hd (cs := #[.int .i64 0, .int .i64 0, .slice none 0 0]) (t := 24) ?hr ?_; (case hd => rfl); (case hg => rfl); (case hr => first | (go_simp; done) | (go_simp; rfl))
          intro gE hg w46 hbox hb
          have KE := Aside0.mk (hbox)
          have GWE := ge_ hg HB.out
          have GEE := ge_ hg HB.out
          have NBE := nl_ hg KB
          have NEB := ng_ hg KB
          have NCE := nl_ hg KC
          have NEC := ng_ hg KC
          have NDE := nl_ hg KD
          have NED := ng_ hg KD
          replace HO255 := Aside0.mk (Kd.R_below (by (with_reducible repeat (first | apply Kd.R_alloc | apply Kd.R_drewN | apply Kd.R_drew)); exact HO255.out) hb)
          replace KB := bb_ KB hb
          replace KC := bb_ KC hb
          replace KD := bb_ KD hb
          replace HB := Aside0.mk (below_step HB.out hb)
          clear hb hbox hg
          refine hK.out _ _ ⟨(blk_cell KB.out 0).trans rfl, (blk_cell KB.out 1).trans rfl, (blk_cell KB.out 2).trans rfl⟩ (fun hHeld => ?_)
          clear hK K
          refine norm_ (a' := ?_) ?_ ?_
          rotate_left
          ·show Act.put _ (some 12) _ = _
           refine ps ?_
           rfl
          exact norm_ (by simp only [putAll, Act.put, List.setIfInBounds_toArray, List.set_cons_zero, List.set_cons_succ]) (hCont (.slice Ao45 y253.length co45, gE) _ ⟨hHeld, (by (with_reducible repeat (first | apply Kd.R_alloc | apply Kd.R_drewN | apply Kd.R_drew)); exact HO255.out), (pl KB.out), (pl KC.out), (pl KD.out), (pl KE.out), GWE.out, GEE.out, NBE.out, NEB.out, NCE.out, NEC.out, NDE.out, NED.out, (by repeat (first | (with_reducible first | exact HB.out | apply below_alloc | apply pw_below_drewN | apply below_drew1 | refine below_set ?_ GEB.out | refine below_set ?_ GEC.out | refine below_set ?_ GED.out | refine below_set ?_ GEE.out) | exact HB.out))⟩)
         ·skip
          refine box_step ?hg (N := 12) ?hd (cs := #[.int .i64 0, .int .i64 0, .slice none 0 0]) (t := 24) ?hr ?_; (case hd => rfl); (case hg => rfl); (case hr => first | (go_simp; done) | (go_simp; rfl))
          intro gE hg w43 hbox hb
          have KE := Aside0.mk (hbox)
          have GWE := ge_ hg HB.out
          have GEE := ge_ hg HB.out
          have NBE := nl_ hg KB
          have NEB := ng_ hg KB
          have NCE := nl_ hg KC
          have NEC := ng_ hg KC
          have NDE := nl_ hg KD
          have NED := ng_ hg KD
          replace KB := bb_ KB hb
          replace KC := bb_ KC hb
          replace KD := bb_ KD hb
          replace HB := Aside0.mk (below_step HB.out hb)
          clear hb hbox hg
          refine hK.out _ _ ⟨(blk_cell KB.out 0).trans rfl, (blk_cell KB.out 1).trans rfl, (blk_cell KB.out 2).trans rfl⟩ (fun hHeld => ?_)
          clear hK K
          refine norm_ (a' := ?_) ?_ ?_
          rotate_left
          ·show Act.put _ (some 12) _ = _
           refine ps ?_
           rfl
          refine one_ (i := 7) (N := some 56) #[true, true, true, true, true, true, true, true, false, true, false] rfl rfl (one_of HT_.out (by kernel_rfl)) (by decide) (fun K hK => ?_)
          refine Kd.R_make_step k32 _ 32 (by rfl) (N := 56) rfl 22 _ _ rfl (l2_2.length : Int) rfl rfl Try.underlying22 (.agg #[(.int .i64 0), (.int .i64 0), (.int .i64 0), (.int .i64 0)]) 32 info32 rfl (by decide) (by omega) z32 (ok := fun _ => True) (okp := fun _ => True) (k32_mkM _ _ _ z32 ) (fun _ hk => hk) trivial (of_decide_eq_true (by first | (with_reducible assumption) | assumption)) (Nat.le_trans (Nat.mul_le_mul_right _ (of_decide_eq_true (by first | (with_reducible assumption) | assumption) : (l2_2.length : Int).toNat ≤ 8796093022208)) (by omega)) (Below.refl _ _) (Nat.le_refl _) ?_
          intro v254 w44 ho45 hb hg_ hnew_
          clear hg_ hnew_
          (first | rw [← Ny253.out] at ho45 | (simp only [Int.reduceToNat] at ho45; rw [← Ny253.out] at ho45))
          have HO255 := Aside0.mk (Kd.R_lower ho45 (below_size HB.out))
          replace KB := bb_ KB hb
          replace KC := bb_ KC hb
          replace KD := bb_ KD hb
          replace KE := bb_ KE hb
          replace HB := Aside0.mk (below_step HB.out hb)
          clear hb ho45
          obtain ⟨Ao46, co46, eo46⟩ := Kd.R_slice HO255.out
          (first | subst eo46 | (injection eo46 with f1_ f2_ f3_; have f4_ := f1_.symm; have f5_ := f3_.symm; clear f1_ f2_ f3_; subst f4_; subst f5_))
          refine hK.out _ _ ⟨(blk_cell KB.out 0).trans rfl, (blk_cell KB.out 1).trans rfl, (blk_cell KB.out 2).trans rfl⟩ (fun hHeld => ?_)
          clear hK K
          refine norm_ (a' := ?_) ?_ ?_
          rotate_left
          ·show Act.put _ (some 56) _ = _
           refine ps ?_
           rfl
          refine pure_ (i := 8) (N := some 57) (v := ?_) (a' := ?_) #[true, true, true, true, true, true, true, true, true, true, false] rfl rfl (any_of HT_.out (by kernel_rfl)) (fun _ _ _ h => h) (Or.inl ⟨by rfl, ?_⟩) ?_ ?_
          rotate_left
          ·intro w'
           go_simp
           with_reducible rfl
          rotate_left
          ·refine ps ?_
           rfl
          exact norm_ (by simp only [putAll, Act.put, List.setIfInBounds_toArray, List.set_cons_zero, List.set_cons_succ]) (hCont (.slice Ao46 y253.length co46, gE) _ ⟨hHeld, (by (with_reducible repeat (first | apply Kd.R_alloc | apply Kd.R_drewN | apply Kd.R_drew)); exact HO255.out), (pl KB.out), (pl KC.out), (pl KD.out), (pl KE.out), GWE.out, GEE.out, NBE.out, NEB.out, NCE.out, NEC.out, NDE.out, NED.out, (by repeat (first | (with_reducible first | exact HB.out | apply below_alloc | apply pw_below_drewN | apply below_drew1 | refine below_set ?_ GEB.out | refine below_set ?_ GEC.out | refine below_set ?_ GED.out | refine below_set ?_ GEE.out) | exact HB.out))⟩)
        rintro ⟨v254, gE⟩ w47 ⟨hS_, h0_, h1_, h2_, h3_, h4_, h5_, h6_, h7_, h8_, h9_, h10_, h11_, h12_, h13_⟩
        have n0_ : Aside0 (Kd.R k32 32 w47 w.heap.size (fun _ => True) v254 y253) := ⟨h0_⟩
        have n1_ : Aside0 (w47.heap[gB]? = some (.cells #[.int .i64 a2_0, .int .i64 a2_1, .slice A2_2 l2_2.length c2_2] 24 (0, 0))) := ⟨h1_⟩
        have n2_ : Aside0 (w47.heap[gC]? = some (.cells #[.int .i64 a3_0, .int .i64 a3_1, .slice A3_2 l3_2.length c3_2] 24 (0, 0))) := ⟨h2_⟩
        have n3_ : Aside0 (w47.heap[gD]? = some (.cells #[.int .i64 0, .int .i64 0, .slice none 0 0] 24 (0, 0))) := ⟨h3_⟩
        have n4_ : Aside0 (w47.heap[gE]? = some (.cells #[.int .i64 0, .int .i64 0, .slice none 0 0] 24 (0, 0))) := ⟨h4_⟩
        have n5_ : Aside0 (w.heap.size ≤ gE) := ⟨h5_⟩
        have n6_ : Aside0 (w.heap.size ≤ gE) := ⟨h6_⟩
        have n7_ : Aside0 (gB ≠ gE) := ⟨h7_⟩
        have n8_ : Aside0 (gE ≠ gB) := ⟨h8_⟩
        have n9_ : Aside0 (gC ≠ gE) := ⟨h9_⟩
        have n10_ : Aside0 (gE ≠ gC) := ⟨h10_⟩
        have n11_ : Aside0 (gD ≠ gE) := ⟨h11_⟩
        have n12_ : Aside0 (gE ≠ gD) := ⟨h12_⟩
        have n13_ : Aside0 (Below w.heap.size w w47) := ⟨h13_⟩
        clear KB
        clear KC
        clear KD
        clear HB
        clear h0_ h1_ h2_ h3_ h4_ h5_ h6_ h7_ h8_ h9_ h10_ h11_ h12_ h13_
        have HO255 := n0_
        have KB := n1_
        have KC := n2_
        have KD := n3_
        have KE := n4_
        have GWE := n5_
        have GEE := n6_
        have NBE := n7_
        have NEB := n8_
        have NCE := n9_
        have NEC := n10_
        have NDE := n11_
        have NED := n12_
        have HB := n13_
        clear n0_ n1_ n2_ n3_ n4_ n5_ n6_ n7_ n8_ n9_ n10_ n11_ n12_ n13_
        have hHeld : w47.cell? ⟨gB, 0, none⟩ = some (.int .i64 a2_0) ∧ w47.cell? ⟨gB, 1, none⟩ = some (.int .i64 a2_1) ∧ w47.cell? ⟨gB, 2, none⟩ = some (.slice A2_2 l2_2.length c2_2) := hS_
        obtain ⟨Ao48, co48, eo48⟩ := Kd.R_slice HO255.out
        (first | subst eo48 | (injection eo48 with f1_ f2_ f3_; have f4_ := f1_.symm; have f5_ := f3_.symm; clear f1_ f2_ f3_; subst f4_; subst f5_))
        refine norm_ (a' := ?_) ?_ ?_
        rotate_left
        ·simp only [putAll, Act.put, List.setIfInBounds_toArray, List.set_cons_zero, List.set_cons_succ]
         rfl
        refine one_ (i := 10) (N := none) #[true, true, true, true, true, true, true, true, true, true, true] rfl rfl (one_of HT_.out (by kernel_rfl)) (by decide) (fun K hK => ?_)
        have hs49 := ci_ KE 0 (.int .i64 0)
        have hfs49 := blk_frozen KE.out 0
        have hns49_0 := NBE.out
        have hns49_1 := NCE.out
        have hns49_2 := NDE.out
        have hms49_0 := NEB.out
        have hms49_1 := NEC.out
        have hms49_2 := NED.out
        have hs50 := ci_ KE 1 (.int .i64 0)
        have hfs50 := blk_frozen KE.out 1
        have hns50_0 := NBE.out
        have hns50_1 := NCE.out
        have hns50_2 := NDE.out
        have hms50_0 := NEB.out
        have hms50_1 := NEC.out
        have hms50_2 := NED.out
        have hs51 := ci_ KE 2 (.slice none 0 0)
        have hfs51 := blk_frozen KE.out 2
        have hns51_0 := NBE.out
        have hns51_1 := NCE.out
        have hns51_2 := NDE.out
        have hms51_0 := NEB.out
        have hms51_1 := NEC.out
        have hms51_2 := NED.out
        refine skip_ (w1 := ?_) (by rfl) rfl ?_ ?_
        rotate_left
        ·go_simp
         rfl
        refine hK.out _ _ ⟨((cell_far (p := ⟨gE, _, none⟩) NBE.out _).trans (((cell_far (p := ⟨gE, _, none⟩) NBE.out _).trans (((cell_far (p := ⟨gE, _, none⟩) NBE.out _).trans (hHeld.1)))))), ((cell_far (p := ⟨gE, _, none⟩) NBE.out _).trans (((cell_far (p := ⟨gE, _, none⟩) NBE.out _).trans (((cell_far (p := ⟨gE, _, none⟩) NBE.out _).trans (hHeld.2.1)))))), ((cell_far (p := ⟨gE, _, none⟩) NBE.out _).trans (((cell_far (p := ⟨gE, _, none⟩) NBE.out _).trans (((cell_far (p := ⟨gE, _, none⟩) NBE.out _).trans (hHeld.2.2))))))⟩ (fun hHeld => ?_)
        clear hK K
        refine done_ (done_of HT_.out (by kernel_rfl)) ?_
        have hnb52 := NBC.out
        have hnc52 := NCB.out
        have hnb53 := NBD.out
        have hnc53 := NDB.out
        have hnb54 := NBE.out
        have hnc54 := NEB.out
        have hcz55_0 := ci_ KB 0 (.int .i64 a2_0)
        have hcz55_1 := ci_ KB 1 (.int .i64 a2_1)
        have hcz55_2 := ci_ KB 2 (.slice A2_2 l2_2.length c2_2)
        have hfz55_0 := blk_frozen KB.out 0
        have hfz55_1 := blk_frozen KB.out 1
        have hfz55_2 := blk_frozen KB.out 2
        try go_wp2
        go_loopg [61] kj12 (fun kq v61 w' => ∃ (x61_2 : Int) (x257002_2 : List (S32)) (u257002 : Value), v61 = .int .i64 x61_2 ∧ Aside0 (blend_Image.l0 kq a0 a1 l2_2 (l2_2.length : Int) x61_2 a3_0 a3_1 l3_2 a2_0 a2_1 x257002_2 = some (r1, r2, r3, r4)) ∧ Aside0 (kq ≤ kj12) ∧ Aside0 (Kd.R k32 32 w' w.heap.size (fun _ => True) u257002 x257002_2) ∧ Aside0 (w'.heap[gB]? = some (.cells #[.int .i64 a2_0, .int .i64 a2_1, (.slice A2_2 l2_2.length c2_2)] 24 (0, 0))) ∧ Aside0 (w'.heap[gC]? = some (.cells #[.int .i64 a3_0, .int .i64 a3_1, (.slice A3_2 l3_2.length c3_2)] 24 (0, 0))) ∧ Aside0 (w'.heap[gD]? = some (.cells #[.int .i64 0, .int .i64 0, (.slice none 0 0)] 24 (0, 0))) ∧ Aside0 (w'.heap[gE]? = some (.cells #[.int .i64 a2_0, .int .i64 a2_1, u257002] 24 (0, 0))) ∧ Aside0 (Below w.heap.size w w'))
        case atStart => exact ⟨(0), (y253), (.slice Ao48 y253.length co48), (by first | rfl | (simp; done) | (simp [*]; done)), H', ⟨Nat.le_refl _⟩, ⟨by (with_reducible repeat (first | apply Kd.R_alloc | apply Kd.R_drewN | apply Kd.R_drew)); exact Kd.R_mono (Kd.R_far (p := ⟨gE, 2, none⟩) (Kd.R_far (p := ⟨gE, 1, none⟩) (Kd.R_far (p := ⟨gE, 0, none⟩) (Kd.R_types HO255.out KE.out (by decide)) (fun _ hk => hk.2) (.int .i64 a2_0)) (fun _ hk => hk.2) (.int .i64 a2_1)) (fun _ hk => hk.2) (.slice Ao48 y253.length co48)) (fun _ hk => trivial)⟩, ⟨by refine pl ?_; refine blk_far ?_ NBE.out _; refine pl ?_; refine blk_far ?_ NBE.out _; refine pl ?_; refine blk_far ?_ NBE.out _; refine pl ?_; exact KB.out⟩, ⟨by refine pl ?_; refine blk_far ?_ NCE.out _; refine pl ?_; refine blk_far ?_ NCE.out _; refine pl ?_; refine blk_far ?_ NCE.out _; refine pl ?_; exact KC.out⟩, ⟨by refine pl ?_; refine blk_far ?_ NDE.out _; refine pl ?_; refine blk_far ?_ NDE.out _; refine pl ?_; refine blk_far ?_ NDE.out _; refine pl ?_; exact KD.out⟩, ⟨by refine pl ?_; refine blk_put (cs := #[.int .i64 a2_0, .int .i64 a2_1, .slice none 0 0]) ?_ 2 _ rfl; refine pl ?_; refine blk_put (cs := #[.int .i64 a2_0, .int .i64 0, .slice none 0 0]) ?_ 1 _ rfl; refine pl ?_; refine blk_put (cs := #[.int .i64 0, .int .i64 0, .slice none 0 0]) ?_ 0 _ rfl; refine pl ?_; exact KE.out⟩, ⟨by repeat (first | (with_reducible first | exact HB.out | apply below_alloc | apply pw_below_drewN | apply below_drew1 | refine below_set ?_ GEB.out | refine below_set ?_ GEC.out | refine below_set ?_ GED.out | refine below_set ?_ GEE.out) | exact HB.out)⟩⟩
        case round =>
         clear H'
         try clear c1
         try clear c2
         try clear p2
         try clear c3
         try clear c4
         try clear c5
         try clear c6
         try clear c8
         try clear c8b0
         try clear c8b1
         try clear c10
         try clear c10b0
         try clear c10b1
         try clear c12
         try clear c12b0
         try clear c12b1
         try clear c18
         try clear c19
         try clear c22
         try clear c25
         try clear c25b0
         try clear c25b1
         try clear c26
         try clear c27
         try clear c29
         try clear c31
         try clear c32
         try clear c33
         try clear c34
         try clear c36
         try clear c37
         try clear c38
         try clear c40
         try clear c40b0
         try clear c40b1
         try clear c41
         try clear c41b0
         try clear c41b1
         try clear c52
         try clear c53
         try clear c54
         try clear hcz20_0
         try clear hcz20_1
         try clear hcz20_2
         try clear hcz23_0
         try clear hcz23_1
         try clear hcz23_2
         try clear hcz28_0
         try clear hcz28_1
         try clear hcz28_2
         try clear hcz30_0
         try clear hcz30_1
         try clear hcz30_2
         try clear hcz33_0
         try clear hcz33_1
         try clear hcz33_2
         try clear hcz35_0
         try clear hcz35_1
         try clear hcz35_2
         try clear hcz39_0
         try clear hcz39_1
         try clear hcz39_2
         try clear hcz55_0
         try clear hcz55_1
         try clear hcz55_2
         try clear hfz20_0
         try clear hfz20_1
         try clear hfz20_2
         try clear hfz23_0
         try clear hfz23_1
         try clear hfz23_2
         try clear hfz28_0
         try clear hfz28_1
         try clear hfz28_2
         try clear hfz30_0
         try clear hfz30_1
         try clear hfz30_2
         try clear hfz33_0
         try clear hfz33_1
         try clear hfz33_2
         try clear hfz35_0
         try clear hfz35_1
         try clear hfz35_2
         try clear hfz39_0
         try clear hfz39_1
         try clear hfz39_2
         try clear hfz55_0
         try clear hfz55_1
         try clear hfz55_2
         try clear p2
         obtain ⟨x61_2, x257002_2, u257002, rfl, HA, HK2, HO_257002, KB, KC, KD, KE, HB⟩ := hrel
         cases gk with
         | zero => exact absurd HA.out (by simp [blend_Image.l0])
         | succ k2 =>
          have H := HA.out
          clear HA
          simp only [blend_Image.l0] at H
          by_cases c56 : x61_2 < (l2_2.length : Int)
          ·rw [if_pos c56] at H
           have c56b0 : decide (x61_2 < (l2_2.length : Int)) = true := decide_eq_true c56
           clear c56
           by_cases c57 : 0 ≤ x61_2
           rotate_left
           ·rw [if_neg c57] at H
            exact absurd H (by simp)
           rw [if_pos c57] at H
           have c57b0 : decide (0 ≤ x61_2) = true := decide_eq_true c57
           clear c57
           by_cases c58 : x61_2 < (l2_2.length : Int)
           rotate_left
           ·rw [if_neg c58] at H
            exact absurd H (by simp)
           rw [if_pos c58] at H
           have c58b0 : decide (x61_2 < (l2_2.length : Int)) = true := decide_eq_true c58
           clear c58
           by_cases c59 : x61_2 < (l3_2.length : Int)
           rotate_left
           ·rw [if_neg c59] at H
            exact absurd H (by simp)
           rw [if_pos c59] at H
           have c59b0 : decide (x61_2 < (l3_2.length : Int)) = true := decide_eq_true c59
           clear c59
           replace H := Option.bind_eq_some_iff.mp H
           obtain ⟨⟨t260, t261, t262, t263⟩, A600, H⟩ := H
           replace H : ((blend_Over.f k2 a0 ((rd_T32 l2_2 x61_2).f0) ((rd_T32 l2_2 x61_2).f1) ((rd_T32 l2_2 x61_2).f2) ((rd_T32 l2_2 x61_2).f3) t260 t261 t262 t263).bind fun bt264 => (if x61_2 < (x257002_2.length : Int) then (blend_Image.l0 k2 a0 a1 l2_2 (l2_2.length : Int) (wrap64 (x61_2 + 1)) a3_0 a3_1 l3_2 a2_0 a2_1 (x257002_2.set (x61_2 : Int).toNat (⟨bt264.1, bt264.2.1, bt264.2.2.1, bt264.2.2.2⟩ : S32))) else (none))) = some (r1, r2, r3, r4) := H
           have A60 := Aside0.mk A600
           clear A600
           replace H := Option.bind_eq_some_iff.mp H
           obtain ⟨⟨t264, t265, t266, t267⟩, A610, H⟩ := H
           replace H : (if x61_2 < (x257002_2.length : Int) then (blend_Image.l0 k2 a0 a1 l2_2 (l2_2.length : Int) (wrap64 (x61_2 + 1)) a3_0 a3_1 l3_2 a2_0 a2_1 (x257002_2.set (x61_2 : Int).toNat (⟨t264, t265, t266, t267⟩ : S32))) else (none)) = some (r1, r2, r3, r4) := H
           have A61 := Aside0.mk A610
           clear A610
           by_cases c62 : x61_2 < (x257002_2.length : Int)
           rotate_left
           ·rw [if_neg c62] at H
            exact absurd H (by simp)
           rw [if_pos c62] at H
           have c62b0 : decide (x61_2 < (x257002_2.length : Int)) = true := decide_eq_true c62
           clear c62
           obtain ⟨y268, hy268⟩ : ∃ y_ : List (S32), y_ = (x257002_2.set (x61_2 : Int).toNat (⟨t264, t265, t266, t267⟩ : S32)) := ⟨_, rfl⟩
           replace H : (blend_Image.l0 k2 a0 a1 l2_2 (l2_2.length : Int) (wrap64 (x61_2 + 1)) a3_0 a3_1 l3_2 a2_0 a2_1 y268) = some (r1, r2, r3, r4) := by first | (rw [hy268]; with_reducible exact H) | (have H2_ := (Option.bind_some _ _).symm.trans H; rw [hy268]; with_reducible exact H2_) | (have H2_ := (Option.bind_some _ _).symm.trans H; with_reducible exact H2_) | with_reducible exact H | (rw [hy268]; exact H) | exact H
           have Ny268 := Aside0.mk hy268
           clear hy268
           have H' := Aside0.mk H
           clear H
           have p257 : 0 ≤ (x61_2 : Int) := of_decide_eq_true (by first | (with_reducible assumption) | assumption)
           have q257 : x61_2 < (l2_2.length : Int) := of_decide_eq_true (by first | (with_reducible assumption) | assumption)
           obtain ⟨ad257, e257, hx257_0, hx257_1, hx257_2, hx257_3⟩ := at_T32 HR2_2.out x61_2 p257 q257
           cases e257
           replace hx257_0 := (HB.out.cell (World.block_lt_of_cell? w _ hx257_0)).trans hx257_0
           replace hx257_1 := (HB.out.cell (World.block_lt_of_cell? w _ hx257_1)).trans hx257_1
           replace hx257_2 := (HB.out.cell (World.block_lt_of_cell? w _ hx257_2)).trans hx257_2
           replace hx257_3 := (HB.out.cell (World.block_lt_of_cell? w _ hx257_3)).trans hx257_3
           replace p257 := eq_true p257
           replace q257 := eq_true q257
           try go_wp2_with (first | ((with_reducible refine gate_dst (N := 14) rfl ?_); refine box_event ?hg (N := 14) ?hd (cs := #[.int .i64 0, .int .i64 0, .int .i64 0, .int .i64 0]) (t := 32) ?hr ?_; (case hd => rfl); (case hg => rfl); (case hr => first | (go_simp; done) | (go_simp; rfl)); intro gF hg w64 hbox hb; have c0_ := cp_ hb KB; have c1_ := cp_ hb KC; have c2_ := cp_ hb KD; have c3_ := cp_ hb KE; have KF := Aside0.mk hbox; have GWF := Aside0.mk ((by rw [hg]; exact (below_size (by repeat (first | (with_reducible first | exact HB.out | apply below_alloc | apply pw_below_drewN | apply below_drew1 | refine below_set ?_ GEB.out | refine below_set ?_ GEC.out | refine below_set ?_ GED.out | refine below_set ?_ GEE.out) | exact HB.out))) : w.heap.size ≤ gF)); have GEF := Aside0.mk ((by rw [hg]; exact (below_size (by repeat (first | (with_reducible first | exact HB.out | apply below_alloc | apply pw_below_drewN | apply below_drew1 | refine below_set ?_ GEB.out | refine below_set ?_ GEC.out | refine below_set ?_ GED.out | refine below_set ?_ GEE.out) | exact HB.out))) : w.heap.size ≤ gF)); have NBF := nl_ hg c0_; have NFB := ng_ hg c0_; have NCF := nl_ hg c1_; have NFC := ng_ hg c1_; have NDF := nl_ hg c2_; have NFD := ng_ hg c2_; have NEF := nl_ hg c3_; have NFE := ng_ hg c3_; replace HO_257002 := Aside0.mk (Kd.R_below (Kd.R_elderB (by (with_reducible repeat (first | apply Kd.R_alloc | apply Kd.R_drewN | apply Kd.R_drew)); exact HO_257002.out) gF (Nat.le_of_eq hg.symm)) hb); replace KB := bb_ c0_ hb; replace KC := bb_ c1_ hb; replace KD := bb_ c2_ hb; replace KE := bb_ c3_ hb; replace HB := Aside0.mk (below_step (by repeat (first | (with_reducible first | exact HB.out | apply below_alloc | apply pw_below_drewN | apply below_drew1 | refine below_set ?_ GEB.out | refine below_set ?_ GEC.out | refine below_set ?_ GED.out | refine below_set ?_ GEE.out) | exact HB.out)) hb); clear c0_ c1_ c2_ c3_; clear hb hbox hg; have hnb65 := NFB.out; have hnc65 := NBF.out; have hnb66 := NFC.out; have hnc66 := NCF.out; have hnb67 := NFD.out; have hnc67 := NDF.out; have hnb68 := NFE.out; have hnc68 := NEF.out; have hcz69_0 := ci_ KF 0 (.int .i64 0); have hcz69_1 := ci_ KF 1 (.int .i64 0); have hcz69_2 := ci_ KF 2 (.int .i64 0); have hcz69_3 := ci_ KF 3 (.int .i64 0); have hfz69_0 := blk_frozen KF.out 0; have hfz69_1 := blk_frozen KF.out 1; have hfz69_2 := blk_frozen KF.out 2; have hfz69_3 := blk_frozen KF.out 3))
           have n0_ : Aside0 (Kd.R k32 32 ((((w64.setCell ⟨gF, 0, none⟩ (.int .i64 ((rd_T32 l2_2 x61_2).f0))).setCell ⟨gF, 1, none⟩ (.int .i64 ((rd_T32 l2_2 x61_2).f1))).setCell ⟨gF, 2, none⟩ (.int .i64 ((rd_T32 l2_2 x61_2).f2))).setCell ⟨gF, 3, none⟩ (.int .i64 ((rd_T32 l2_2 x61_2).f3))) w.heap.size (fun k_ => k_ ≠ gF) u257002 x257002_2) := ⟨by (with_reducible repeat (first | apply Kd.R_alloc | apply Kd.R_drewN | apply Kd.R_drew)); exact Kd.R_mono (Kd.R_far (p := ⟨gF, 3, none⟩) (Kd.R_far (p := ⟨gF, 2, none⟩) (Kd.R_far (p := ⟨gF, 1, none⟩) (Kd.R_far (p := ⟨gF, 0, none⟩) (Kd.R_mono HO_257002.out (fun k_ hk => (⟨hk, hk.2⟩ : _ ∧ k_ ≠ gF))) (fun _ hk => hk.2) (.int .i64 ((rd_T32 l2_2 x61_2).f0))) (fun _ hk => hk.2) (.int .i64 ((rd_T32 l2_2 x61_2).f1))) (fun _ hk => hk.2) (.int .i64 ((rd_T32 l2_2 x61_2).f2))) (fun _ hk => hk.2) (.int .i64 ((rd_T32 l2_2 x61_2).f3))) (fun _ hk => hk.1.2)⟩
           have n1_ : Aside0 (((((w64.setCell ⟨gF, 0, none⟩ (.int .i64 ((rd_T32 l2_2 x61_2).f0))).setCell ⟨gF, 1, none⟩ (.int .i64 ((rd_T32 l2_2 x61_2).f1))).setCell ⟨gF, 2, none⟩ (.int .i64 ((rd_T32 l2_2 x61_2).f2))).setCell ⟨gF, 3, none⟩ (.int .i64 ((rd_T32 l2_2 x61_2).f3))).heap[gB]? = some (.cells #[.int .i64 a2_0, .int .i64 a2_1, .slice (some ad257) l2_2.length c2_2] 24 (0, 0))) := ⟨by refine pl ?_; refine blk_far ?_ NBF.out _; refine pl ?_; refine blk_far ?_ NBF.out _; refine pl ?_; refine blk_far ?_ NBF.out _; refine pl ?_; refine blk_far ?_ NBF.out _; refine pl ?_; exact KB.out⟩
           have n2_ : Aside0 (((((w64.setCell ⟨gF, 0, none⟩ (.int .i64 ((rd_T32 l2_2 x61_2).f0))).setCell ⟨gF, 1, none⟩ (.int .i64 ((rd_T32 l2_2 x61_2).f1))).setCell ⟨gF, 2, none⟩ (.int .i64 ((rd_T32 l2_2 x61_2).f2))).setCell ⟨gF, 3, none⟩ (.int .i64 ((rd_T32 l2_2 x61_2).f3))).heap[gC]? = some (.cells #[.int .i64 a3_0, .int .i64 a3_1, .slice A3_2 l3_2.length c3_2] 24 (0, 0))) := ⟨by refine pl ?_; refine blk_far ?_ NCF.out _; refine pl ?_; refine blk_far ?_ NCF.out _; refine pl ?_; refine blk_far ?_ NCF.out _; refine pl ?_; refine blk_far ?_ NCF.out _; refine pl ?_; exact KC.out⟩
           have n3_ : Aside0 (((((w64.setCell ⟨gF, 0, none⟩ (.int .i64 ((rd_T32 l2_2 x61_2).f0))).setCell ⟨gF, 1, none⟩ (.int .i64 ((rd_T32 l2_2 x61_2).f1))).setCell ⟨gF, 2, none⟩ (.int .i64 ((rd_T32 l2_2 x61_2).f2))).setCell ⟨gF, 3, none⟩ (.int .i64 ((rd_T32 l2_2 x61_2).f3))).heap[gD]? = some (.cells #[.int .i64 0, .int .i64 0, .slice none 0 0] 24 (0, 0))) := ⟨by refine pl ?_; refine blk_far ?_ NDF.out _; refine pl ?_; refine blk_far ?_ NDF.out _; refine pl ?_; refine blk_far ?_ NDF.out _; refine pl ?_; refine blk_far ?_ NDF.out _; refine pl ?_; exact KD.out⟩
           have n4_ : Aside0 (((((w64.setCell ⟨gF, 0, none⟩ (.int .i64 ((rd_T32 l2_2 x61_2).f0))).setCell ⟨gF, 1, none⟩ (.int .i64 ((rd_T32 l2_2 x61_2).f1))).setCell ⟨gF, 2, none⟩ (.int .i64 ((rd_T32 l2_2 x61_2).f2))).setCell ⟨gF, 3, none⟩ (.int .i64 ((rd_T32 l2_2 x61_2).f3))).heap[gE]? = some (.cells #[.int .i64 a2_0, .int .i64 a2_1, u257002] 24 (0, 0))) := ⟨by refine pl ?_; refine blk_far ?_ NEF.out _; refine pl ?_; refine blk_far ?_ NEF.out _; refine pl ?_; refine blk_far ?_ NEF.out _; refine pl ?_; refine blk_far ?_ NEF.out _; refine pl ?_; exact KE.out⟩
           have n5_ : Aside0 (((((w64.setCell ⟨gF, 0, none⟩ (.int .i64 ((rd_T32 l2_2 x61_2).f0))).setCell ⟨gF, 1, none⟩ (.int .i64 ((rd_T32 l2_2 x61_2).f1))).setCell ⟨gF, 2, none⟩ (.int .i64 ((rd_T32 l2_2 x61_2).f2))).setCell ⟨gF, 3, none⟩ (.int .i64 ((rd_T32 l2_2 x61_2).f3))).heap[gF]? = some (.cells #[.int .i64 ((rd_T32 l2_2 x61_2).f0), .int .i64 ((rd_T32 l2_2 x61_2).f1), .int .i64 ((rd_T32 l2_2 x61_2).f2), .int .i64 ((rd_T32 l2_2 x61_2).f3)] 32 (0, 0))) := ⟨by refine pl ?_; refine blk_put (cs := #[.int .i64 ((rd_T32 l2_2 x61_2).f0), .int .i64 ((rd_T32 l2_2 x61_2).f1), .int .i64 ((rd_T32 l2_2 x61_2).f2), .int .i64 0]) ?_ 3 _ rfl; refine pl ?_; refine blk_put (cs := #[.int .i64 ((rd_T32 l2_2 x61_2).f0), .int .i64 ((rd_T32 l2_2 x61_2).f1), .int .i64 0, .int .i64 0]) ?_ 2 _ rfl; refine pl ?_; refine blk_put (cs := #[.int .i64 ((rd_T32 l2_2 x61_2).f0), .int .i64 0, .int .i64 0, .int .i64 0]) ?_ 1 _ rfl; refine pl ?_; refine blk_put (cs := #[.int .i64 0, .int .i64 0, .int .i64 0, .int .i64 0]) ?_ 0 _ rfl; refine pl ?_; exact KF.out⟩
           have n6_ : Aside0 (Below w.heap.size w ((((w64.setCell ⟨gF, 0, none⟩ (.int .i64 ((rd_T32 l2_2 x61_2).f0))).setCell ⟨gF, 1, none⟩ (.int .i64 ((rd_T32 l2_2 x61_2).f1))).setCell ⟨gF, 2, none⟩ (.int .i64 ((rd_T32 l2_2 x61_2).f2))).setCell ⟨gF, 3, none⟩ (.int .i64 ((rd_T32 l2_2 x61_2).f3)))) := ⟨by repeat (first | (with_reducible first | exact HB.out | apply below_alloc | apply pw_below_drewN | apply below_drew1 | refine below_set ?_ GEB.out | refine below_set ?_ GEC.out | refine below_set ?_ GED.out | refine below_set ?_ GEE.out | refine below_set ?_ GEF.out) | exact HB.out)⟩
           (try clear HO_257002)
           (try clear KB)
           (try clear KC)
           (try clear KD)
           (try clear KE)
           (try clear KF)
           (try clear HB)
           generalize ((((w64.setCell ⟨gF, 0, none⟩ (.int .i64 ((rd_T32 l2_2 x61_2).f0))).setCell ⟨gF, 1, none⟩ (.int .i64 ((rd_T32 l2_2 x61_2).f1))).setCell ⟨gF, 2, none⟩ (.int .i64 ((rd_T32 l2_2 x61_2).f2))).setCell ⟨gF, 3, none⟩ (.int .i64 ((rd_T32 l2_2 x61_2).f3))) = w70 at n0_ n1_ n2_ n3_ n4_ n5_ n6_ ⊢
           have HO_257002 := n0_
           have KB := n1_
           have KC := n2_
           have KD := n3_
           have KE := n4_
           have KF := n5_
           have HB := n6_
           clear n0_ n1_ n2_ n3_ n4_ n5_ n6_
           replace HO_257002 := Aside0.mk (Kd.R_drew HO_257002.out)
           replace KB := Aside0.mk (blk_drew KB.out)
           replace KC := Aside0.mk (blk_drew KC.out)
           replace KD := Aside0.mk (blk_drew KD.out)
           replace KE := Aside0.mk (blk_drew KE.out)
           replace KF := Aside0.mk (blk_drew KF.out)
           replace HB := Aside0.mk (below_drew1 HB.out)
           have p259 : 0 ≤ (x61_2 : Int) := of_decide_eq_true (by first | (with_reducible assumption) | assumption)
           have q259 : x61_2 < (l3_2.length : Int) := of_decide_eq_true (by first | (with_reducible assumption) | assumption)
           obtain ⟨ad259, e259, hx259_0, hx259_1, hx259_2, hx259_3⟩ := at_T32 HR3_2.out x61_2 p259 q259
           have hw259_3 := hx259_3
           have hw259_2 := hx259_2
           have hw259_1 := hx259_1
           have hw259_0 := hx259_0
           cases e259
           replace hx259_0 := (HB.out.cell (World.block_lt_of_cell? w _ hx259_0)).trans hx259_0
           replace hx259_1 := (HB.out.cell (World.block_lt_of_cell? w _ hx259_1)).trans hx259_1
           replace hx259_2 := (HB.out.cell (World.block_lt_of_cell? w _ hx259_2)).trans hx259_2
           replace hx259_3 := (HB.out.cell (World.block_lt_of_cell? w _ hx259_3)).trans hx259_3
           replace p259 := eq_true p259
           replace q259 := eq_true q259
           refine start_ (n := 15) (S := fun w' => w'.cell? ⟨gE, 0, none⟩ = some (.int .i64 a2_0) ∧ w'.cell? ⟨gE, 1, none⟩ = some (.int .i64 a2_1) ∧ w'.cell? ⟨gE, 2, none⟩ = some (u257002) ∧ w'.cell? ⟨gF, 0, none⟩ = some (.int .i64 ((rd_T32 l2_2 x61_2).f0)) ∧ w'.cell? ⟨gF, 1, none⟩ = some (.int .i64 ((rd_T32 l2_2 x61_2).f1)) ∧ w'.cell? ⟨gF, 2, none⟩ = some (.int .i64 ((rd_T32 l2_2 x61_2).f2)) ∧ w'.cell? ⟨gF, 3, none⟩ = some (.int .i64 ((rd_T32 l2_2 x61_2).f3)) ∧ w'.cell? ⟨gC, 0, none⟩ = some (.int .i64 a3_0) ∧ w'.cell? ⟨gC, 1, none⟩ = some (.int .i64 a3_1) ∧ w'.cell? ⟨gC, 2, none⟩ = some (.slice (some ad259) l3_2.length c3_2) ∧ w'.cell? (ad259.add ((x61_2).toNat * 4)) = some (.int .i64 ((rd_T32 l3_2 x61_2).f0)) ∧ w'.cell? ⟨(ad259.add ((x61_2).toNat * 4)).block, (ad259.add ((x61_2).toNat * 4)).off + 1, none⟩ = some (.int .i64 ((rd_T32 l3_2 x61_2).f1)) ∧ w'.cell? ⟨(ad259.add ((x61_2).toNat * 4)).block, (ad259.add ((x61_2).toNat * 4)).off + 2, none⟩ = some (.int .i64 ((rd_T32 l3_2 x61_2).f2)) ∧ w'.cell? ⟨(ad259.add ((x61_2).toNat * 4)).block, (ad259.add ((x61_2).toNat * 4)).off + 3, none⟩ = some (.int .i64 ((rd_T32 l3_2 x61_2).f3))) (ds := [14]) #[false, false, false, false, false, false, false, false, false, false, false, false, false, false, false] (by kernel_rfl) rfl rfl ⟨(blk_cell KE.out 0).trans rfl, (blk_cell KE.out 1).trans rfl, (blk_cell KE.out 2).trans rfl, (blk_cell KF.out 0).trans rfl, (blk_cell KF.out 1).trans rfl, (blk_cell KF.out 2).trans rfl, (blk_cell KF.out 3).trans rfl, (blk_cell KC.out 0).trans rfl, (blk_cell KC.out 1).trans rfl, (blk_cell KC.out 2).trans rfl, ((HB.out.cell (World.block_lt_of_cell? w _ hw259_0)).trans hw259_0), ((HB.out.cell (World.block_lt_of_cell? w _ hw259_1)).trans hw259_1), ((HB.out.cell (World.block_lt_of_cell? w _ hw259_2)).trans hw259_2), ((HB.out.cell (World.block_lt_of_cell? w _ hw259_3)).trans hw259_3)⟩ (fun hHeld => ?_); refine with_tabW blend_Image.tab17 blend_Image.bits17 (fun HT_ HW_ => ?_)
           generalize w70.drew = w71 at HO_257002 KB KC KD KE KF HB hx259_0 hx259_1 hx259_2 hx259_3 hHeld ⊢
           refine pure_ (i := 0) (N := some 66) (v := ?_) (a' := ?_) #[true, false, false, false, false, false, false, false, false, false, false, false, false, false, false] rfl rfl (any_of HT_.out (by kernel_rfl)) (fun _ _ _ h => h) (Or.inl ⟨by rfl, ?_⟩) ?_ ?_
           rotate_left
           ·intro w'
            go_simp
            with_reducible rfl
           rotate_left
           ·refine ps ?_
            rfl
           refine pure_ (i := 2) (N := some 68) (v := ?_) (a' := ?_) #[true, false, true, false, false, false, false, false, false, false, false, false, false, false, false] rfl rfl (any_of HT_.out (by kernel_rfl)) (fun _ _ _ h => h) (Or.inl ⟨by rfl, ?_⟩) ?_ ?_
           rotate_left
           ·intro w'
            go_simp
            with_reducible rfl
           rotate_left
           ·refine ps ?_
            rfl
           refine pure_ (i := 3) (N := some 69) (v := ?_) (a' := ?_) #[true, false, true, true, false, false, false, false, false, false, false, false, false, false, false] rfl rfl (any_of HT_.out (by kernel_rfl)) (fun _ _ _ h => h) (Or.inl ⟨by rfl, ?_⟩) ?_ ?_
           rotate_left
           ·intro w'
            go_simp
            with_reducible rfl
           rotate_left
           ·refine ps ?_
            rfl
           refine pure_ (i := 5) (N := some 71) (v := ?_) (a' := ?_) #[true, false, true, true, false, true, false, false, false, false, false, false, false, false, false] rfl rfl (any_of HT_.out (by kernel_rfl)) (fun _ _ _ h => h) (Or.inl ⟨by rfl, ?_⟩) ?_ ?_
           rotate_left
           ·intro w'
            go_simp
            with_reducible rfl
           rotate_left
           ·refine ps ?_
            rfl
           refine pure_ (i := 7) (N := some 73) (v := ?_) (a' := ?_) #[true, false, true, true, false, true, false, true, false, false, false, false, false, false, false] rfl rfl (any_of HT_.out (by kernel_rfl)) (fun _ _ _ h => h) (Or.inl ⟨by rfl, ?_⟩) ?_ ?_
           rotate_left
           ·intro w'
            go_simp
            with_reducible rfl
           rotate_left
           ·refine ps ?_
            rfl
           refine pure_ (i := 10) (N := some 76) (v := ?_) (a' := ?_) #[true, false, true, true, false, true, false, true, false, false, true, false, false, false, false] rfl rfl (any_of HT_.out (by kernel_rfl)) (fun _ _ _ h => h) (Or.inl ⟨by rfl, ?_⟩) ?_ ?_
           rotate_left
           ·intro w'
            go_simp
            with_reducible rfl
           rotate_left
           ·refine ps ?_
            rfl
           refine take_ (i := 1) (N := some 67) (v := ?_) (a' := ?_) #[true, true, true, true, false, true, false, true, false, false, true, false, false, false, false] rfl rfl (take_ofW HT_.out HW_.out (by kernel_rfl)) (fun _ _ _ h => h) (Or.inl ⟨by rfl, ?_⟩) hHeld ?_ ?_
           rotate_left
           ·rintro w' ⟨s0, s1, s2, s3, s4, s5, s6, s7, s8, s9, s10, s11, s12, s13⟩
            go_simp
            with_reducible rfl
           rotate_left
           ·refine ps ?_
            rfl
           refine take_ (i := 4) (N := some 70) (v := ?_) (a' := ?_) #[true, true, true, true, true, true, false, true, false, false, true, false, false, false, false] rfl rfl (take_ofW HT_.out HW_.out (by kernel_rfl)) (fun _ _ _ h => h) (Or.inl ⟨by rfl, ?_⟩) hHeld ?_ ?_
           rotate_left
           ·rintro w' ⟨s0, s1, s2, s3, s4, s5, s6, s7, s8, s9, s10, s11, s12, s13⟩
            go_simp
            with_reducible rfl
           rotate_left
           ·refine ps ?_
            rfl
           refine take_ (i := 6) (N := some 72) (v := ?_) (a' := ?_) #[true, true, true, true, true, true, true, true, false, false, true, false, false, false, false] rfl rfl (take_ofW HT_.out HW_.out (by kernel_rfl)) (fun _ _ _ h => h) (Or.inl ⟨by rfl, ?_⟩) hHeld ?_ ?_
           rotate_left
           ·rintro w' ⟨s0, s1, s2, s3, s4, s5, s6, s7, s8, s9, s10, s11, s12, s13⟩
            go_simp
            with_reducible rfl
           rotate_left
           ·refine ps ?_
            rfl
           refine pure_ (i := 8) (N := some 74) (v := ?_) (a' := ?_) #[true, true, true, true, true, true, true, true, true, false, true, false, false, false, false] rfl rfl (any_of HT_.out (by kernel_rfl)) (fun _ _ _ h => h) (Or.inl ⟨by rfl, ?_⟩) ?_ ?_
           rotate_left
           ·intro w'
            go_simp
            with_reducible rfl
           rotate_left
           ·refine ps ?_
            rfl
           refine take_ (i := 9) (N := some 75) (v := ?_) (a' := ?_) #[true, true, true, true, true, true, true, true, true, true, true, false, false, false, false] rfl rfl (take_ofW HT_.out HW_.out (by kernel_rfl)) (fun _ _ _ h => h) (Or.inl ⟨by rfl, ?_⟩) hHeld ?_ ?_
           rotate_left
           ·rintro w' ⟨s0, s1, s2, s3, s4, s5, s6, s7, s8, s9, s10, s11, s12, s13⟩
            go_simp
            with_reducible rfl
           rotate_left
           ·refine ps ?_
            rfl
           refine one_ (i := 11) (N := some 77) #[true, true, true, true, true, true, true, true, true, true, true, true, false, false, false] rfl rfl (one_of HT_.out (by kernel_rfl)) (by decide) (fun K hK => ?_)
           refine goes_ Try.func34 (by kernel_rfl) rfl #[.agg #[.int .i64 ((rd_T32 l3_2 x61_2).f0), .int .i64 ((rd_T32 l3_2 x61_2).f1), .int .i64 ((rd_T32 l3_2 x61_2).f2), .int .i64 ((rd_T32 l3_2 x61_2).f3)], .int .i64 a1] (by rfl) rfl rfl pm ?_
           with_reducible refine (pixel_Fade.calls ((rd_T32 l3_2 x61_2).f0) ((rd_T32 l3_2 x61_2).f1) ((rd_T32 l3_2 x61_2).f2) ((rd_T32 l3_2 x61_2).f3) a1 t260 t261 t262 t263 _ A60.out).mono ?_
           rintro e w72 ⟨rfl, hb⟩
           refine ⟨_, rfl, ?_⟩
           replace HO_257002 := Aside0.mk (Kd.R_below (by (with_reducible repeat (first | apply Kd.R_alloc | apply Kd.R_drewN | apply Kd.R_drew)); exact HO_257002.out) hb)
           replace KB := bb_ KB hb
           replace KC := bb_ KC hb
           replace KD := bb_ KD hb
           replace KE := bb_ KE hb
           replace KF := bb_ KF hb
           replace HB := Aside0.mk (below_step HB.out hb)
           try clear hb
           refine hK.out _ _ ⟨(blk_cell KE.out 0).trans rfl, (blk_cell KE.out 1).trans rfl, (blk_cell KE.out 2).trans rfl, (blk_cell KF.out 0).trans rfl, (blk_cell KF.out 1).trans rfl, (blk_cell KF.out 2).trans rfl, (blk_cell KF.out 3).trans rfl, (blk_cell KC.out 0).trans rfl, (blk_cell KC.out 1).trans rfl, (blk_cell KC.out 2).trans rfl, ((HB.out.cell (World.block_lt_of_cell? w _ hw259_0)).trans hw259_0), ((HB.out.cell (World.block_lt_of_cell? w _ hw259_1)).trans hw259_1), ((HB.out.cell (World.block_lt_of_cell? w _ hw259_2)).trans hw259_2), ((HB.out.cell (World.block_lt_of_cell? w _ hw259_3)).trans hw259_3)⟩ (fun hHeld => ?_)
           clear hK K
           refine norm_ (a' := ?_) ?_ ?_
           rotate_left
           ·show Act.put _ (some 77) _ = _
            refine ps ?_
            rfl
           refine one_ (i := 12) (N := some 78) #[true, true, true, true, true, true, true, true, true, true, true, true, true, false, false] rfl rfl (one_of HT_.out (by kernel_rfl)) (by decide) (fun K hK => ?_)
           refine goes_ Try.func14 (by kernel_rfl) rfl #[.int .i64 a0, .agg #[.int .i64 ((rd_T32 l2_2 x61_2).f0), .int .i64 ((rd_T32 l2_2 x61_2).f1), .int .i64 ((rd_T32 l2_2 x61_2).f2), .int .i64 ((rd_T32 l2_2 x61_2).f3)], .agg #[.int .i64 t260, .int .i64 t261, .int .i64 t262, .int .i64 t263]] (by rfl) rfl rfl pm ?_
           with_reducible refine (blend_Over.calls k2 a0 ((rd_T32 l2_2 x61_2).f0) ((rd_T32 l2_2 x61_2).f1) ((rd_T32 l2_2 x61_2).f2) ((rd_T32 l2_2 x61_2).f3) t260 t261 t262 t263 t264 t265 t266 t267 _ A61.out).mono ?_
           rintro e w73 ⟨rfl, hb⟩
           refine ⟨_, rfl, ?_⟩
           replace HO_257002 := Aside0.mk (Kd.R_below (by (with_reducible repeat (first | apply Kd.R_alloc | apply Kd.R_drewN | apply Kd.R_drew)); exact HO_257002.out) hb)
           replace KB := bb_ KB hb
           replace KC := bb_ KC hb
           replace KD := bb_ KD hb
           replace KE := bb_ KE hb
           replace KF := bb_ KF hb
           replace HB := Aside0.mk (below_step HB.out hb)
           try clear hb
           have p63 : 0 ≤ (x61_2 : Int) := of_decide_eq_true (by first | (with_reducible assumption) | assumption)
           have q63 : (x61_2 : Int) < ((x257002_2.length : Int) : Int) := of_decide_eq_true (by first | (with_reducible assumption) | assumption)
           obtain ⟨go63, co63, eo63, gA, gl63, cl63, HG63⟩ := Kd.R_form HO_257002.out (by omega)
           (first | cases eo63 | (injection eo63 with ea_ en_ ec_; (first | subst ea_ | (injection ea_ with ea_; subst ea_)); subst ec_; clear en_))
           have GB63 := Aside0.mk gA
           have GG63 := Aside0.mk HG63
           clear gA gl63 HG63
           obtain ⟨ce63, hcl63, hM63, hcc63, hfr63⟩ := Kd.R_elem HO_257002.out z32 (x61_2 : Int) p63 q63
           obtain rfl := k32_openM hM63
           have hx63_0 : World.cell? _ ⟨go63, (x61_2 : Int).toNat * 4, none⟩ = some (.int .i64 ((rd_T32 x257002_2 x61_2).f0)) := hcc63 0 _ rfl
           have hx63_1 : World.cell? _ ⟨go63, (x61_2 : Int).toNat * 4 + 1, none⟩ = some (.int .i64 ((rd_T32 x257002_2 x61_2).f1)) := hcc63 1 _ rfl
           have hx63_2 : World.cell? _ ⟨go63, (x61_2 : Int).toNat * 4 + 2, none⟩ = some (.int .i64 ((rd_T32 x257002_2 x61_2).f2)) := hcc63 2 _ rfl
           have hx63_3 : World.cell? _ ⟨go63, (x61_2 : Int).toNat * 4 + 3, none⟩ = some (.int .i64 ((rd_T32 x257002_2 x61_2).f3)) := hcc63 3 _ rfl
           have hf63_0 : World.frozen? _ ⟨go63, (x61_2 : Int).toNat * 4, none⟩ = false := hfr63 0
           have hf63_1 : World.frozen? _ ⟨go63, (x61_2 : Int).toNat * 4 + 1, none⟩ = false := hfr63 1
           have hf63_2 : World.frozen? _ ⟨go63, (x61_2 : Int).toNat * 4 + 2, none⟩ = false := hfr63 2
           have hf63_3 : World.frozen? _ ⟨go63, (x61_2 : Int).toNat * 4 + 3, none⟩ = false := hfr63 3
           clear hcl63 hcc63 hfr63 hM63
           replace p63 := eq_true p63
           replace q63 := eq_true q63
           obtain ⟨ce74, hcl74, hM74, hcc74, hfr74⟩ := Kd.R_elem HO_257002.out z32 (x61_2 : Int) (of_decide_eq_true (by first | (with_reducible assumption) | assumption)) (by have h_ : (x61_2 : Int) < ((x257002_2.length : Int) : Int) := of_decide_eq_true (by first | (with_reducible assumption) | assumption); first | exact h_ | (have e_ := (Kd.R_reads' HO_257002.out).1; omega) | simpa using h_)
           obtain rfl := k32_openM hM74
           have HP74 := (Kd.R_seg HO_257002.out (x61_2 : Int) (of_decide_eq_true (by first | (with_reducible assumption) | assumption)) (by have h_ : (x61_2 : Int) < ((x257002_2.length : Int) : Int) := of_decide_eq_true (by first | (with_reducible assumption) | assumption); first | exact h_ | (have e_ := (Kd.R_reads' HO_257002.out).1; omega) | simpa using h_) (seg := [.int .i64 t264, .int .i64 t265, .int .i64 t266, .int .i64 t267]) (j := 0) hcl74 hcc74 (show 4 ≤ 4 from by decide) (x' := (⟨t264, t265, t266, t267⟩ : S32)) (k32_mkM _ _ _ (⟨t264, t265, t266, t267⟩ : S32) ) (fun _ hk => hk)).1
           rw [← Ny268.out] at HP74
           have HQ74 := Aside0.mk HP74
           clear hcl74 hcc74 hfr74 hM74 HP74
           refine hK.out _ _ ⟨(blk_cell KE.out 0).trans rfl, (blk_cell KE.out 1).trans rfl, (blk_cell KE.out 2).trans rfl, (blk_cell KF.out 0).trans rfl, (blk_cell KF.out 1).trans rfl, (blk_cell KF.out 2).trans rfl, (blk_cell KF.out 3).trans rfl, (blk_cell KC.out 0).trans rfl, (blk_cell KC.out 1).trans rfl, (blk_cell KC.out 2).trans rfl, ((HB.out.cell (World.block_lt_of_cell? w _ hw259_0)).trans hw259_0), ((HB.out.cell (World.block_lt_of_cell? w _ hw259_1)).trans hw259_1), ((HB.out.cell (World.block_lt_of_cell? w _ hw259_2)).trans hw259_2), ((HB.out.cell (World.block_lt_of_cell? w _ hw259_3)).trans hw259_3)⟩ (fun hHeld => ?_)
           clear hK K
           refine norm_ (a' := ?_) ?_ ?_
           rotate_left
           ·show Act.put _ (some 78) _ = _
            refine ps ?_
            rfl
           refine pure_ (i := 13) (N := some 79) (v := ?_) (a' := ?_) #[true, true, true, true, true, true, true, true, true, true, true, true, true, true, false] rfl rfl (any_of HT_.out (by kernel_rfl)) (fun _ _ _ h => h) (Or.inl ⟨by rfl, ?_⟩) ?_ ?_
           rotate_left
           ·intro w'
            go_simp
            with_reducible rfl
           rotate_left
           ·refine ps ?_
            rfl
           refine last_ (i := 14) (N := none) #[true, true, true, true, true, true, true, true, true, true, true, true, true, true, true] rfl rfl (one_of HT_.out (by kernel_rfl)) (by decide) (fun K hK => ?_)
           refine skip_ (w1 := ?_) (by rfl) rfl ?_ ?_
           rotate_left
           ·go_simp
            rfl
           refine hK.out _ _ ?_
           clear hK K
           refine done_ (done_of HT_.out (by kernel_rfl)) ?_
           try go_wp2
           go_roundg k2
           case measure => have := HJ12.out; have := HK2.out; omega
           case rel => exact ⟨(wrap64 (x61_2 + 1)), (y268), (.slice (some ⟨go63, 0, none⟩) x257002_2.length co63), (by first | rfl | (simp; done) | (simp [*]; done)), H', ⟨by have := HJ12.out; have := HK2.out; omega⟩, ⟨by (with_reducible repeat (first | apply Kd.R_alloc | apply Kd.R_drewN | apply Kd.R_drew)); exact Kd.R_mono HQ74.out (fun _ hk => trivial)⟩, ⟨by refine pl ?_; refine blk_far ?_ (by have h_ := Kd.R_ne HO_257002.out KB.out (by decide); intro e_; exact h_ (by rw [e_]; rfl)) _; refine pl ?_; refine blk_far ?_ (by have h_ := Kd.R_ne HO_257002.out KB.out (by decide); intro e_; exact h_ (by rw [e_]; rfl)) _; refine pl ?_; refine blk_far ?_ (by have h_ := Kd.R_ne HO_257002.out KB.out (by decide); intro e_; exact h_ (by rw [e_]; rfl)) _; refine pl ?_; refine blk_far ?_ (by have h_ := Kd.R_ne HO_257002.out KB.out (by decide); intro e_; exact h_ (by rw [e_]; rfl)) _; refine pl ?_; exact KB.out⟩, ⟨by refine pl ?_; refine blk_far ?_ (by have h_ := Kd.R_ne HO_257002.out KC.out (by decide); intro e_; exact h_ (by rw [e_]; rfl)) _; refine pl ?_; refine blk_far ?_ (by have h_ := Kd.R_ne HO_257002.out KC.out (by decide); intro e_; exact h_ (by rw [e_]; rfl)) _; refine pl ?_; refine blk_far ?_ (by have h_ := Kd.R_ne HO_257002.out KC.out (by decide); intro e_; exact h_ (by rw [e_]; rfl)) _; refine pl ?_; refine blk_far ?_ (by have h_ := Kd.R_ne HO_257002.out KC.out (by decide); intro e_; exact h_ (by rw [e_]; rfl)) _; refine pl ?_; exact KC.out⟩, ⟨by refine pl ?_; refine blk_far ?_ (by have h_ := Kd.R_ne HO_257002.out KD.out (by decide); intro e_; exact h_ (by rw [e_]; rfl)) _; refine pl ?_; refine blk_far ?_ (by have h_ := Kd.R_ne HO_257002.out KD.out (by decide); intro e_; exact h_ (by rw [e_]; rfl)) _; refine pl ?_; refine blk_far ?_ (by have h_ := Kd.R_ne HO_257002.out KD.out (by decide); intro e_; exact h_ (by rw [e_]; rfl)) _; refine pl ?_; refine blk_far ?_ (by have h_ := Kd.R_ne HO_257002.out KD.out (by decide); intro e_; exact h_ (by rw [e_]; rfl)) _; refine pl ?_; exact KD.out⟩, ⟨by refine pl ?_; refine blk_far ?_ (by have h_ := Kd.R_ne HO_257002.out KE.out (by decide); intro e_; exact h_ (by rw [e_]; rfl)) _; refine pl ?_; refine blk_far ?_ (by have h_ := Kd.R_ne HO_257002.out KE.out (by decide); intro e_; exact h_ (by rw [e_]; rfl)) _; refine pl ?_; refine blk_far ?_ (by have h_ := Kd.R_ne HO_257002.out KE.out (by decide); intro e_; exact h_ (by rw [e_]; rfl)) _; refine pl ?_; refine blk_far ?_ (by have h_ := Kd.R_ne HO_257002.out KE.out (by decide); intro e_; exact h_ (by rw [e_]; rfl)) _; refine pl ?_; exact KE.out⟩, ⟨by repeat (first | (with_reducible first | exact HB.out | apply below_alloc | apply pw_below_drewN | apply below_drew1 | refine below_set ?_ GB63.out | refine below_set ?_ GB63.out | refine below_set ?_ GB63.out | refine below_set ?_ GB63.out | refine below_set ?_ GEB.out | refine below_set ?_ GEC.out | refine below_set ?_ GED.out | refine below_set ?_ GEE.out | refine below_set ?_ GEF.out) | exact HB.out)⟩⟩
          ·rw [if_neg c56] at H
           have c56b0 : decide (x61_2 < (l2_2.length : Int)) = false := decide_eq_false c56
           clear c56
           simp only [Option.some.injEq, Prod.mk.injEq] at H
           obtain ⟨rfl, rfl, rfl, rfl⟩ := H
           have hnb75 := NEB.out
           have hnc75 := NBE.out
           have hnb76 := NEC.out
           have hnc76 := NCE.out
           have hnb77 := NED.out
           have hnc77 := NDE.out
           have hcz78_0 := ci_ KE 0 (.int .i64 a2_0)
           have hcz78_1 := ci_ KE 1 (.int .i64 a2_1)
           have hcz78_2 := ci_ KE 2 (u257002)
           have hfz78_0 := blk_frozen KE.out 0
           have hfz78_1 := blk_frozen KE.out 1
           have hfz78_2 := blk_frozen KE.out 2
           have hnb79 := NDB.out
           have hnc79 := NBD.out
           have hnb80 := NDC.out
           have hnc80 := NCD.out
           have hcz81_0 := ci_ KD 0 (.int .i64 0)
           have hcz81_1 := ci_ KD 1 (.int .i64 0)
           have hcz81_2 := ci_ KD 2 (.slice none 0 0)
           have hfz81_0 := blk_frozen KD.out 0
           have hfz81_1 := blk_frozen KD.out 1
           have hfz81_2 := blk_frozen KD.out 2
           obtain ⟨Ao82, co82, eo82⟩ := Kd.R_slice HO_257002.out
           subst eo82
           go_wp2
           refine bodyPost_ret (results_ct rfl _ _ gD 24 #[.int .i64 a2_0, .int .i64 a2_1, .slice Ao82 x257002_2.length co82] (0, 0) _ rfl (by refine pl ?_; refine blk_put (cs := #[.int .i64 a2_0, .int .i64 a2_1, .slice none 0 0]) ?_ 2 _ rfl; refine pl ?_; refine blk_put (cs := #[.int .i64 a2_0, .int .i64 0, .slice none 0 0]) ?_ 1 _ rfl; refine pl ?_; refine blk_put (cs := #[.int .i64 0, .int .i64 0, .slice none 0 0]) ?_ 0 _ rfl; refine pl ?_; exact KD.out) Try.underlying24 rfl (by kernel_rfl)) rfl ?_
           exact ⟨_, by first | rfl | (simp [errW_none, errW_some] <;> rfl) | (simp [*, errW_none, errW_some] <;> rfl), by (with_reducible repeat (first | apply Kd.R_alloc | apply Kd.R_drewN | apply Kd.R_drew)); exact Kd.R_mono (Kd.R_far (p := ⟨gD, 2, none⟩) (Kd.R_far (p := ⟨gD, 1, none⟩) (Kd.R_far (p := ⟨gD, 0, none⟩) (Kd.R_types HO_257002.out KD.out (by decide)) (fun _ hk => hk.2) (.int .i64 a2_0)) (fun _ hk => hk.2) (.int .i64 a2_1)) (fun _ hk => hk.2) (.slice Ao82 x257002_2.length co82)) (fun _ hk => trivial), by repeat (first | (with_reducible first | exact HB.out | apply below_alloc | apply pw_below_drewN | apply below_drew1 | refine below_set ?_ GEB.out | refine below_set ?_ GEC.out | refine below_set ?_ GED.out | refine below_set ?_ GEE.out) | exact HB.out)⟩
    ·rw [if_neg c12] at H
     have c12b0 : (t252 == 0) = false := beq_eq_false_iff_ne.mpr c12
     have c12b1 : (t252 != 0) = true := bne_iff_ne.mpr c12
     simp only [Option.some.injEq, Prod.mk.injEq] at H
     obtain ⟨rfl, rfl, rfl, rfl⟩ := H
     go_enter Try.func12, Try.ntmps12
     go_wp2_with (first | ((with_reducible refine gate_dst (N := 6) rfl ?_); refine box_event ?hg (N := 6) ?hd (cs := #[.int .i64 a2_0, .int .i64 a2_1, .slice A2_2 l2_2.length c2_2]) (t := 24) ?hr ?_; (case hd => rfl); (case hg => rfl); (case hr => first | (go_simp; done) | (go_simp; rfl)); intro gB hg w83 hbox hb; have KB := Aside0.mk hbox; have GWB := ge_ hg (pb HB.out); have GEB := ge_ hg (pb HB.out); replace HB := Aside0.mk (below_step (pb HB.out) hb); clear hb hbox hg) | ((with_reducible refine gate_dst (N := 7) rfl ?_); refine box_event ?hg (N := 7) ?hd (cs := #[.int .i64 a3_0, .int .i64 a3_1, .slice A3_2 l3_2.length c3_2]) (t := 24) ?hr ?_; (case hd => rfl); (case hg => rfl); (case hr => first | (go_simp; done) | (go_simp; rfl)); intro gC hg w84 hbox hb; have c0_ := cp_ hb KB; have KC := Aside0.mk hbox; have GWC := ge_ hg (pb1 HB.out GEB.out); have GEC := ge_ hg (pb1 HB.out GEB.out); have NBC := nl_ hg c0_; have NCB := ng_ hg c0_; replace KB := bb_ c0_ hb; replace HB := Aside0.mk (below_step (pb1 HB.out GEB.out) hb); clear c0_; clear hb hbox hg) | ((with_reducible refine gate_dst (N := 8) rfl ?_); refine box_event ?hg (N := 8) ?hd (cs := #[.int .i64 0, .int .i64 0, .slice none 0 0]) (t := 24) ?hr ?_; (case hd => rfl); (case hg => rfl); (case hr => first | (go_simp; done) | (go_simp; rfl)); intro gD hg w85 hbox hb; have c0_ := cp_ hb KB; have c1_ := cp_ hb KC; have KD := Aside0.mk hbox; have GWD := ge_ hg (pb2 HB.out GEB.out GEC.out); have GED := ge_ hg (pb2 HB.out GEB.out GEC.out); have NBD := nl_ hg c0_; have NDB := ng_ hg c0_; have NCD := nl_ hg c1_; have NDC := ng_ hg c1_; replace KB := bb_ c0_ hb; replace KC := bb_ c1_ hb; replace HB := Aside0.mk (below_step (pb2 HB.out GEB.out GEC.out) hb); clear c0_ c1_; clear hb hbox hg) | ((with_reducible refine gate_callee (f := 18) rfl ?_); refine goesL_ (some 16) rfl rfl Try.func18 (by kernel_rfl) rfl #[.int .i64 a0] rfl pm ?_; (with_reducible refine (blend_Valid.calls a0 true _ A5.out).mono ?_); rintro e w' ⟨rfl, ⟨nd, rfl⟩⟩; refine ⟨_, rfl, ?_⟩; (try (rw [drewN_self w85]; generalize hq_ : World.drewN w85 _ = w85; have n0_ : Aside0 (w85.heap[gB]? = some (.cells #[.int .i64 a2_0, .int .i64 a2_1, .slice A2_2 l2_2.length c2_2] 24 (0, 0))) := ⟨by rw [← hq_]; exact (pl KB.out)⟩; have n1_ : Aside0 (w85.heap[gC]? = some (.cells #[.int .i64 a3_0, .int .i64 a3_1, .slice A3_2 l3_2.length c3_2] 24 (0, 0))) := ⟨by rw [← hq_]; exact (pl KC.out)⟩; have n2_ : Aside0 (w85.heap[gD]? = some (.cells #[.int .i64 0, .int .i64 0, .slice none 0 0] 24 (0, 0))) := ⟨by rw [← hq_]; exact (pl KD.out)⟩; have n3_ : Aside0 (Below w.heap.size w w85) := ⟨by rw [← hq_]; exact (pb3 HB.out GEB.out GEC.out GED.out)⟩; clear KB KC KD HB hq_; have KB := n0_; have KC := n1_; have KD := n2_; have HB := n3_; clear n0_ n1_ n2_ n3_))) | ((with_reducible refine gate_callee (f := 32) rfl ?_); refine goesL_ (some 21) rfl rfl Try.func32 (by kernel_rfl) rfl #[.int .i64 a1] rfl pm ?_; (with_reducible refine (blend_unit.calls a1 t250 _ A7.out).mono ?_); rintro e w86 ⟨rfl, hb⟩; refine ⟨_, rfl, ?_⟩; replace KB := bp_ KB hb; replace KC := bp_ KC hb; replace KD := bp_ KD hb; replace HB := Aside0.mk (below_step (pb3 HB.out GEB.out GEC.out GED.out) hb); (try clear hb); (try clear hb2); (try clear hk); (try clear hi); have hnb87 := NBC.out; have hnc87 := NCB.out; have hnb88 := NBD.out; have hnc88 := NDB.out; have hcz89_0 := ci_ KB 0 (.int .i64 a2_0); have hcz89_1 := ci_ KB 1 (.int .i64 a2_1); have hcz89_2 := ci_ KB 2 (.slice A2_2 l2_2.length c2_2); have hfz89_0 := blk_frozen KB.out 0; have hfz89_1 := blk_frozen KB.out 1; have hfz89_2 := blk_frozen KB.out 2) | ((with_reducible refine gate_callee (f := 33) rfl ?_); refine goesL_ (some 25) rfl rfl Try.func33 (by kernel_rfl) rfl #[.agg #[.int .i64 a2_0, .int .i64 a2_1, .slice A2_2 l2_2.length c2_2]] rfl pm ?_; (with_reducible refine (blend_check.calls k a2_0 a2_1 _ _ l2_2 t251 _ ?side1 ?side2 A9.out).mono ?_); (case side1 => repeat (first | exact (Kd.C_below HR2_2.out HB.out) | (with_reducible refine Kd.C_alloc ?_ _) | (with_reducible refine Kd.C_drewN ?_ _) | (with_reducible refine Kd.C_drew ?_))); (case side2 => exact HC2_2.out); rintro e w90 ⟨rfl, hb⟩; refine ⟨_, rfl, ?_⟩; replace KB := bp_ KB hb; replace KC := bp_ KC hb; replace KD := bp_ KD hb; replace HB := Aside0.mk (below_step (pb3 HB.out GEB.out GEC.out GED.out) hb); (try clear hb); (try clear hb2); (try clear hk); (try clear hi); have hnb91 := NCD.out; have hnc91 := NDC.out; have hcz92_0 := ci_ KC 0 (.int .i64 a3_0); have hcz92_1 := ci_ KC 1 (.int .i64 a3_1); have hcz92_2 := ci_ KC 2 (.slice A3_2 l3_2.length c3_2); have hfz92_0 := blk_frozen KC.out 0; have hfz92_1 := blk_frozen KC.out 1; have hfz92_2 := blk_frozen KC.out 2) | ((with_reducible refine gate_callee (f := 33) rfl ?_); refine goesL_ (some 31) rfl rfl Try.func33 (by kernel_rfl) rfl #[.agg #[.int .i64 a3_0, .int .i64 a3_1, .slice A3_2 l3_2.length c3_2]] rfl pm ?_; (with_reducible refine (blend_check.calls k a3_0 a3_1 _ _ l3_2 t252 _ ?side1 ?side2 A11.out).mono ?_); (case side1 => repeat (first | exact (Kd.C_below HR3_2.out HB.out) | (with_reducible refine Kd.C_alloc ?_ _) | (with_reducible refine Kd.C_drewN ?_ _) | (with_reducible refine Kd.C_drew ?_))); (case side2 => exact HC3_2.out); rintro e w93 ⟨rfl, hb⟩; refine ⟨_, rfl, ?_⟩; replace KB := bp_ KB hb; replace KC := bp_ KC hb; replace KD := bp_ KD hb; replace HB := Aside0.mk (below_step (pb3 HB.out GEB.out GEC.out GED.out) hb); (try clear hb); (try clear hb2); (try clear hk); (try clear hi); have hcz94_0 := ci_ KD 0 (.int .i64 0); have hcz94_1 := ci_ KD 1 (.int .i64 0); have hcz94_2 := ci_ KD 2 (.slice none 0 0); have hfz94_0 := blk_frozen KD.out 0; have hfz94_1 := blk_frozen KD.out 1; have hfz94_2 := blk_frozen KD.out 2))
     refine bodyPost_ret (results_ct rfl _ _ gD 24 #[.int .i64 0, .int .i64 0, .slice none 0 0] (0, 0) _ rfl (by refine pl ?_; refine blk_put (cs := #[.int .i64 0, .int .i64 0, .slice none 0 0]) ?_ 2 _ rfl; refine pl ?_; refine blk_put (cs := #[.int .i64 0, .int .i64 0, .slice none 0 0]) ?_ 1 _ rfl; refine pl ?_; refine blk_put (cs := #[.int .i64 0, .int .i64 0, .slice none 0 0]) ?_ 0 _ rfl; refine pl ?_; exact KD.out) Try.underlying24 rfl (by kernel_rfl)) rfl ?_
     exact ⟨_, by first | rfl | (simp [errW_none, errW_some] <;> rfl) | (simp [*, errW_none, errW_some] <;> rfl), by first | exact Kd.R_nil _ _ _ _ _ | exact Kd.N_nil _ _ _ _ _ | exact Kd.V_nil _ _ _ _ _ | exact Kd.Q_nil _ _ _ _ _ | exact Kd.S_nil _ _ _ _ _, pb3 HB.out GEB.out GEC.out GED.out⟩
   ·rw [if_neg c10] at H
    have c10b0 : (t251 == 0) = false := beq_eq_false_iff_ne.mpr c10
    have c10b1 : (t251 != 0) = true := bne_iff_ne.mpr c10
    simp only [Option.some.injEq, Prod.mk.injEq] at H
    obtain ⟨rfl, rfl, rfl, rfl⟩ := H
    go_enter Try.func12, Try.ntmps12
    go_wp2_with (first | ((with_reducible refine gate_dst (N := 6) rfl ?_); refine box_event ?hg (N := 6) ?hd (cs := #[.int .i64 a2_0, .int .i64 a2_1, .slice A2_2 l2_2.length c2_2]) (t := 24) ?hr ?_; (case hd => rfl); (case hg => rfl); (case hr => first | (go_simp; done) | (go_simp; rfl)); intro gB hg w95 hbox hb; have KB := Aside0.mk hbox; have GWB := ge_ hg (pb HB.out); have GEB := ge_ hg (pb HB.out); replace HB := Aside0.mk (below_step (pb HB.out) hb); clear hb hbox hg) | ((with_reducible refine gate_dst (N := 7) rfl ?_); refine box_event ?hg (N := 7) ?hd (cs := #[.int .i64 a3_0, .int .i64 a3_1, .slice A3_2 l3_2.length c3_2]) (t := 24) ?hr ?_; (case hd => rfl); (case hg => rfl); (case hr => first | (go_simp; done) | (go_simp; rfl)); intro gC hg w96 hbox hb; have c0_ := cp_ hb KB; have KC := Aside0.mk hbox; have GWC := ge_ hg (pb1 HB.out GEB.out); have GEC := ge_ hg (pb1 HB.out GEB.out); have NBC := nl_ hg c0_; have NCB := ng_ hg c0_; replace KB := bb_ c0_ hb; replace HB := Aside0.mk (below_step (pb1 HB.out GEB.out) hb); clear c0_; clear hb hbox hg) | ((with_reducible refine gate_dst (N := 8) rfl ?_); refine box_event ?hg (N := 8) ?hd (cs := #[.int .i64 0, .int .i64 0, .slice none 0 0]) (t := 24) ?hr ?_; (case hd => rfl); (case hg => rfl); (case hr => first | (go_simp; done) | (go_simp; rfl)); intro gD hg w97 hbox hb; have c0_ := cp_ hb KB; have c1_ := cp_ hb KC; have KD := Aside0.mk hbox; have GWD := ge_ hg (pb2 HB.out GEB.out GEC.out); have GED := ge_ hg (pb2 HB.out GEB.out GEC.out); have NBD := nl_ hg c0_; have NDB := ng_ hg c0_; have NCD := nl_ hg c1_; have NDC := ng_ hg c1_; replace KB := bb_ c0_ hb; replace KC := bb_ c1_ hb; replace HB := Aside0.mk (below_step (pb2 HB.out GEB.out GEC.out) hb); clear c0_ c1_; clear hb hbox hg) | ((with_reducible refine gate_callee (f := 18) rfl ?_); refine goesL_ (some 16) rfl rfl Try.func18 (by kernel_rfl) rfl #[.int .i64 a0] rfl pm ?_; (with_reducible refine (blend_Valid.calls a0 true _ A5.out).mono ?_); rintro e w' ⟨rfl, ⟨nd, rfl⟩⟩; refine ⟨_, rfl, ?_⟩; (try (rw [drewN_self w97]; generalize hq_ : World.drewN w97 _ = w97; have n0_ : Aside0 (w97.heap[gB]? = some (.cells #[.int .i64 a2_0, .int .i64 a2_1, .slice A2_2 l2_2.length c2_2] 24 (0, 0))) := ⟨by rw [← hq_]; exact (pl KB.out)⟩; have n1_ : Aside0 (w97.heap[gC]? = some (.cells #[.int .i64 a3_0, .int .i64 a3_1, .slice A3_2 l3_2.length c3_2] 24 (0, 0))) := ⟨by rw [← hq_]; exact (pl KC.out)⟩; have n2_ : Aside0 (w97.heap[gD]? = some (.cells #[.int .i64 0, .int .i64 0, .slice none 0 0] 24 (0, 0))) := ⟨by rw [← hq_]; exact (pl KD.out)⟩; have n3_ : Aside0 (Below w.heap.size w w97) := ⟨by rw [← hq_]; exact (pb3 HB.out GEB.out GEC.out GED.out)⟩; clear KB KC KD HB hq_; have KB := n0_; have KC := n1_; have KD := n2_; have HB := n3_; clear n0_ n1_ n2_ n3_))) | ((with_reducible refine gate_callee (f := 32) rfl ?_); refine goesL_ (some 21) rfl rfl Try.func32 (by kernel_rfl) rfl #[.int .i64 a1] rfl pm ?_; (with_reducible refine (blend_unit.calls a1 t250 _ A7.out).mono ?_); rintro e w98 ⟨rfl, hb⟩; refine ⟨_, rfl, ?_⟩; replace KB := bp_ KB hb; replace KC := bp_ KC hb; replace KD := bp_ KD hb; replace HB := Aside0.mk (below_step (pb3 HB.out GEB.out GEC.out GED.out) hb); (try clear hb); (try clear hb2); (try clear hk); (try clear hi); have hnb99 := NBC.out; have hnc99 := NCB.out; have hnb100 := NBD.out; have hnc100 := NDB.out; have hcz101_0 := ci_ KB 0 (.int .i64 a2_0); have hcz101_1 := ci_ KB 1 (.int .i64 a2_1); have hcz101_2 := ci_ KB 2 (.slice A2_2 l2_2.length c2_2); have hfz101_0 := blk_frozen KB.out 0; have hfz101_1 := blk_frozen KB.out 1; have hfz101_2 := blk_frozen KB.out 2) | ((with_reducible refine gate_callee (f := 33) rfl ?_); refine goesL_ (some 25) rfl rfl Try.func33 (by kernel_rfl) rfl #[.agg #[.int .i64 a2_0, .int .i64 a2_1, .slice A2_2 l2_2.length c2_2]] rfl pm ?_; (with_reducible refine (blend_check.calls k a2_0 a2_1 _ _ l2_2 t251 _ ?side1 ?side2 A9.out).mono ?_); (case side1 => repeat (first | exact (Kd.C_below HR2_2.out HB.out) | (with_reducible refine Kd.C_alloc ?_ _) | (with_reducible refine Kd.C_drewN ?_ _) | (with_reducible refine Kd.C_drew ?_))); (case side2 => exact HC2_2.out); rintro e w102 ⟨rfl, hb⟩; refine ⟨_, rfl, ?_⟩; replace KB := bp_ KB hb; replace KC := bp_ KC hb; replace KD := bp_ KD hb; replace HB := Aside0.mk (below_step (pb3 HB.out GEB.out GEC.out GED.out) hb); (try clear hb); (try clear hb2); (try clear hk); (try clear hi); have hnb103 := NDC.out; have hnc103 := NCD.out; have hcz104_0 := ci_ KD 0 (.int .i64 0); have hcz104_1 := ci_ KD 1 (.int .i64 0); have hcz104_2 := ci_ KD 2 (.slice none 0 0); have hfz104_0 := blk_frozen KD.out 0; have hfz104_1 := blk_frozen KD.out 1; have hfz104_2 := blk_frozen KD.out 2))
    refine bodyPost_ret (results_ct rfl _ _ gD 24 #[.int .i64 0, .int .i64 0, .slice none 0 0] (0, 0) _ rfl (by refine pl ?_; refine blk_put (cs := #[.int .i64 0, .int .i64 0, .slice none 0 0]) ?_ 2 _ rfl; refine pl ?_; refine blk_put (cs := #[.int .i64 0, .int .i64 0, .slice none 0 0]) ?_ 1 _ rfl; refine pl ?_; refine blk_put (cs := #[.int .i64 0, .int .i64 0, .slice none 0 0]) ?_ 0 _ rfl; refine pl ?_; exact KD.out) Try.underlying24 rfl (by kernel_rfl)) rfl ?_
    exact ⟨_, by first | rfl | (simp [errW_none, errW_some] <;> rfl) | (simp [*, errW_none, errW_some] <;> rfl), by first | exact Kd.R_nil _ _ _ _ _ | exact Kd.N_nil _ _ _ _ _ | exact Kd.V_nil _ _ _ _ _ | exact Kd.Q_nil _ _ _ _ _ | exact Kd.S_nil _ _ _ _ _, pb3 HB.out GEB.out GEC.out GED.out⟩
  ·rw [if_neg c8] at H
   have c8b0 : (a1 == t250) = false := beq_eq_false_iff_ne.mpr c8
   have c8b1 : (a1 != t250) = true := bne_iff_ne.mpr c8
   simp only [Option.some.injEq, Prod.mk.injEq] at H
   obtain ⟨rfl, rfl, rfl, rfl⟩ := H
   go_enter Try.func12, Try.ntmps12
   go_wp2_with (first | ((with_reducible refine gate_dst (N := 6) rfl ?_); refine box_event ?hg (N := 6) ?hd (cs := #[.int .i64 a2_0, .int .i64 a2_1, .slice A2_2 l2_2.length c2_2]) (t := 24) ?hr ?_; (case hd => rfl); (case hg => rfl); (case hr => first | (go_simp; done) | (go_simp; rfl)); intro gB hg w105 hbox hb; have KB := Aside0.mk hbox; have GWB := ge_ hg (pb HB.out); have GEB := ge_ hg (pb HB.out); replace HB := Aside0.mk (below_step (pb HB.out) hb); clear hb hbox hg) | ((with_reducible refine gate_dst (N := 7) rfl ?_); refine box_event ?hg (N := 7) ?hd (cs := #[.int .i64 a3_0, .int .i64 a3_1, .slice A3_2 l3_2.length c3_2]) (t := 24) ?hr ?_; (case hd => rfl); (case hg => rfl); (case hr => first | (go_simp; done) | (go_simp; rfl)); intro gC hg w106 hbox hb; have c0_ := cp_ hb KB; have KC := Aside0.mk hbox; have GWC := ge_ hg (pb1 HB.out GEB.out); have GEC := ge_ hg (pb1 HB.out GEB.out); have NBC := nl_ hg c0_; have NCB := ng_ hg c0_; replace KB := bb_ c0_ hb; replace HB := Aside0.mk (below_step (pb1 HB.out GEB.out) hb); clear c0_; clear hb hbox hg) | ((with_reducible refine gate_dst (N := 8) rfl ?_); refine box_event ?hg (N := 8) ?hd (cs := #[.int .i64 0, .int .i64 0, .slice none 0 0]) (t := 24) ?hr ?_; (case hd => rfl); (case hg => rfl); (case hr => first | (go_simp; done) | (go_simp; rfl)); intro gD hg w107 hbox hb; have c0_ := cp_ hb KB; have c1_ := cp_ hb KC; have KD := Aside0.mk hbox; have GWD := ge_ hg (pb2 HB.out GEB.out GEC.out); have GED := ge_ hg (pb2 HB.out GEB.out GEC.out); have NBD := nl_ hg c0_; have NDB := ng_ hg c0_; have NCD := nl_ hg c1_; have NDC := ng_ hg c1_; replace KB := bb_ c0_ hb; replace KC := bb_ c1_ hb; replace HB := Aside0.mk (below_step (pb2 HB.out GEB.out GEC.out) hb); clear c0_ c1_; clear hb hbox hg) | ((with_reducible refine gate_callee (f := 18) rfl ?_); refine goesL_ (some 16) rfl rfl Try.func18 (by kernel_rfl) rfl #[.int .i64 a0] rfl pm ?_; (with_reducible refine (blend_Valid.calls a0 true _ A5.out).mono ?_); rintro e w' ⟨rfl, ⟨nd, rfl⟩⟩; refine ⟨_, rfl, ?_⟩; (try (rw [drewN_self w107]; generalize hq_ : World.drewN w107 _ = w107; have n0_ : Aside0 (w107.heap[gB]? = some (.cells #[.int .i64 a2_0, .int .i64 a2_1, .slice A2_2 l2_2.length c2_2] 24 (0, 0))) := ⟨by rw [← hq_]; exact (pl KB.out)⟩; have n1_ : Aside0 (w107.heap[gC]? = some (.cells #[.int .i64 a3_0, .int .i64 a3_1, .slice A3_2 l3_2.length c3_2] 24 (0, 0))) := ⟨by rw [← hq_]; exact (pl KC.out)⟩; have n2_ : Aside0 (w107.heap[gD]? = some (.cells #[.int .i64 0, .int .i64 0, .slice none 0 0] 24 (0, 0))) := ⟨by rw [← hq_]; exact (pl KD.out)⟩; have n3_ : Aside0 (Below w.heap.size w w107) := ⟨by rw [← hq_]; exact (pb3 HB.out GEB.out GEC.out GED.out)⟩; clear KB KC KD HB hq_; have KB := n0_; have KC := n1_; have KD := n2_; have HB := n3_; clear n0_ n1_ n2_ n3_))) | ((with_reducible refine gate_callee (f := 32) rfl ?_); refine goesL_ (some 21) rfl rfl Try.func32 (by kernel_rfl) rfl #[.int .i64 a1] rfl pm ?_; (with_reducible refine (blend_unit.calls a1 t250 _ A7.out).mono ?_); rintro e w108 ⟨rfl, hb⟩; refine ⟨_, rfl, ?_⟩; replace KB := bp_ KB hb; replace KC := bp_ KC hb; replace KD := bp_ KD hb; replace HB := Aside0.mk (below_step (pb3 HB.out GEB.out GEC.out GED.out) hb); (try clear hb); (try clear hb2); (try clear hk); (try clear hi); have hnb109 := NDB.out; have hnc109 := NBD.out; have hnb110 := NDC.out; have hnc110 := NCD.out; have hcz111_0 := ci_ KD 0 (.int .i64 0); have hcz111_1 := ci_ KD 1 (.int .i64 0); have hcz111_2 := ci_ KD 2 (.slice none 0 0); have hfz111_0 := blk_frozen KD.out 0; have hfz111_1 := blk_frozen KD.out 1; have hfz111_2 := blk_frozen KD.out 2))
   refine bodyPost_ret (results_ct rfl _ _ gD 24 #[.int .i64 0, .int .i64 0, .slice none 0 0] (0, 0) _ rfl (by refine pl ?_; refine blk_put (cs := #[.int .i64 0, .int .i64 0, .slice none 0 0]) ?_ 2 _ rfl; refine pl ?_; refine blk_put (cs := #[.int .i64 0, .int .i64 0, .slice none 0 0]) ?_ 1 _ rfl; refine pl ?_; refine blk_put (cs := #[.int .i64 0, .int .i64 0, .slice none 0 0]) ?_ 0 _ rfl; refine pl ?_; exact KD.out) Try.underlying24 rfl (by kernel_rfl)) rfl ?_
   exact ⟨_, by first | rfl | (simp [errW_none, errW_some] <;> rfl) | (simp [*, errW_none, errW_some] <;> rfl), by first | exact Kd.R_nil _ _ _ _ _ | exact Kd.N_nil _ _ _ _ _ | exact Kd.V_nil _ _ _ _ _ | exact Kd.Q_nil _ _ _ _ _ | exact Kd.S_nil _ _ _ _ _, pb3 HB.out GEB.out GEC.out GED.out⟩
 ·replace c6 := Bool.eq_false_iff.mpr c6
  subst c6
  have H1 : (some (0, 0, ([] : List (S32)), 8)) = some (r1, r2, r3, r4) := by rw [if_neg (show ¬ (false = true) by decide)] at H; exact H
  clear H
  have H := H1
  clear H1
  simp only [Option.some.injEq, Prod.mk.injEq] at H
  obtain ⟨rfl, rfl, rfl, rfl⟩ := H
  go_enter Try.func12, Try.ntmps12
  go_wp2_with (first | ((with_reducible refine gate_dst (N := 6) rfl ?_); refine box_event ?hg (N := 6) ?hd (cs := #[.int .i64 a2_0, .int .i64 a2_1, .slice A2_2 l2_2.length c2_2]) (t := 24) ?hr ?_; (case hd => rfl); (case hg => rfl); (case hr => first | (go_simp; done) | (go_simp; rfl)); intro gB hg w112 hbox hb; have KB := Aside0.mk hbox; have GWB := ge_ hg (pb HB.out); have GEB := ge_ hg (pb HB.out); replace HB := Aside0.mk (below_step (pb HB.out) hb); clear hb hbox hg) | ((with_reducible refine gate_dst (N := 7) rfl ?_); refine box_event ?hg (N := 7) ?hd (cs := #[.int .i64 a3_0, .int .i64 a3_1, .slice A3_2 l3_2.length c3_2]) (t := 24) ?hr ?_; (case hd => rfl); (case hg => rfl); (case hr => first | (go_simp; done) | (go_simp; rfl)); intro gC hg w113 hbox hb; have c0_ := cp_ hb KB; have KC := Aside0.mk hbox; have GWC := ge_ hg (pb1 HB.out GEB.out); have GEC := ge_ hg (pb1 HB.out GEB.out); have NBC := nl_ hg c0_; have NCB := ng_ hg c0_; replace KB := bb_ c0_ hb; replace HB := Aside0.mk (below_step (pb1 HB.out GEB.out) hb); clear c0_; clear hb hbox hg) | ((with_reducible refine gate_dst (N := 8) rfl ?_); refine box_event ?hg (N := 8) ?hd (cs := #[.int .i64 0, .int .i64 0, .slice none 0 0]) (t := 24) ?hr ?_; (case hd => rfl); (case hg => rfl); (case hr => first | (go_simp; done) | (go_simp; rfl)); intro gD hg w114 hbox hb; have c0_ := cp_ hb KB; have c1_ := cp_ hb KC; have KD := Aside0.mk hbox; have GWD := ge_ hg (pb2 HB.out GEB.out GEC.out); have GED := ge_ hg (pb2 HB.out GEB.out GEC.out); have NBD := nl_ hg c0_; have NDB := ng_ hg c0_; have NCD := nl_ hg c1_; have NDC := ng_ hg c1_; replace KB := bb_ c0_ hb; replace KC := bb_ c1_ hb; replace HB := Aside0.mk (below_step (pb2 HB.out GEB.out GEC.out) hb); clear c0_ c1_; clear hb hbox hg) | ((with_reducible refine gate_callee (f := 18) rfl ?_); refine goesL_ (some 16) rfl rfl Try.func18 (by kernel_rfl) rfl #[.int .i64 a0] rfl pm ?_; (with_reducible refine (blend_Valid.calls a0 false _ A5.out).mono ?_); rintro e w' ⟨rfl, ⟨nd, rfl⟩⟩; refine ⟨_, rfl, ?_⟩; (try (rw [drewN_self w114]; generalize hq_ : World.drewN w114 _ = w114; have n0_ : Aside0 (w114.heap[gB]? = some (.cells #[.int .i64 a2_0, .int .i64 a2_1, .slice A2_2 l2_2.length c2_2] 24 (0, 0))) := ⟨by rw [← hq_]; exact (pl KB.out)⟩; have n1_ : Aside0 (w114.heap[gC]? = some (.cells #[.int .i64 a3_0, .int .i64 a3_1, .slice A3_2 l3_2.length c3_2] 24 (0, 0))) := ⟨by rw [← hq_]; exact (pl KC.out)⟩; have n2_ : Aside0 (w114.heap[gD]? = some (.cells #[.int .i64 0, .int .i64 0, .slice none 0 0] 24 (0, 0))) := ⟨by rw [← hq_]; exact (pl KD.out)⟩; have n3_ : Aside0 (Below w.heap.size w w114) := ⟨by rw [← hq_]; exact (pb3 HB.out GEB.out GEC.out GED.out)⟩; clear KB KC KD HB hq_; have KB := n0_; have KC := n1_; have KD := n2_; have HB := n3_; clear n0_ n1_ n2_ n3_)); have hnb115 := NDB.out; have hnc115 := NBD.out; have hnb116 := NDC.out; have hnc116 := NCD.out; have hcz117_0 := ci_ KD 0 (.int .i64 0); have hcz117_1 := ci_ KD 1 (.int .i64 0); have hcz117_2 := ci_ KD 2 (.slice none 0 0); have hfz117_0 := blk_frozen KD.out 0; have hfz117_1 := blk_frozen KD.out 1; have hfz117_2 := blk_frozen KD.out 2))
  refine bodyPost_ret (results_ct rfl _ _ gD 24 #[.int .i64 0, .int .i64 0, .slice none 0 0] (0, 0) _ rfl (by refine pl ?_; refine blk_put (cs := #[.int .i64 0, .int .i64 0, .slice none 0 0]) ?_ 2 _ rfl; refine pl ?_; refine blk_put (cs := #[.int .i64 0, .int .i64 0, .slice none 0 0]) ?_ 1 _ rfl; refine pl ?_; refine blk_put (cs := #[.int .i64 0, .int .i64 0, .slice none 0 0]) ?_ 0 _ rfl; refine pl ?_; exact KD.out) Try.underlying24 rfl (by kernel_rfl)) rfl ?_
  exact ⟨_, by first | rfl | (simp [errW_none, errW_some] <;> rfl) | (simp [*, errW_none, errW_some] <;> rfl), by first | exact Kd.R_nil _ _ _ _ _ | exact Kd.N_nil _ _ _ _ _ | exact Kd.V_nil _ _ _ _ _ | exact Kd.Q_nil _ _ _ _ _ | exact Kd.S_nil _ _ _ _ _, pb3 HB.out GEB.out GEC.out GED.out⟩

end Go.Proofs.Ytnijapaaickifaa.I
