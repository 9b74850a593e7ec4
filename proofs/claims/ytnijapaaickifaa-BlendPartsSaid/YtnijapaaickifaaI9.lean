-- Written for this claim by a program of this session (handprint.py) that drives the kit's print. Not trusted: Lean checks it.
import Derived.Test.YtnijapaaickifaaI0
import Derived.Test.YtnijapaaickifaaI2
import Derived.Test.YtnijapaaickifaaI7
import Derived.Test.YtnijapaaickifaaI8
namespace Go.Proofs.Ytnijapaaickifaa.I
open Go.RowKit Go.Proofs.YtnijapaaickifaaW.PrintWords Go.Proofs.YtnijapaaickifaaW.PrintLast
attribute [local go_sem] max2_int min2_int max_two min_two max_three min_three max_four min_four
set_option linter.unusedVariables false
set_option linter.unusedSimpArgs false

/-! ### blend_Colors: function 24 -/
theorem bc_ {w : World} {g : Nat} {t : TypeId} {cs : Array Value} (h : w.heap[g]? = some (.cells cs t (0, 0))) (i : Nat) {v : Option Value} (e : cs[i]? = v) : w.cell? ⟨g, i, none⟩ = v := (blk_cell h i).trans e
def blend_Colors.j0 : Nat → Int → Int → Int → Int → Int → Int → Int → Int → Option (Int × Int × Int × Int)
  | 0, _, _, _, _, _, _, _, _ => none
  | k + 1, x0, x18, x178000, x178001, x178002, x179000, x179001, x179002 => if x18 = 14 then ((blend_sat.f x178000 x178001 x178002).bind fun t180 => ((blend_setSat.f k x179000 x179001 x179002 t180).bind fun bt181 => ((blend_lum.f k x178000 x178001 x178002).bind fun t184 => ((blend_setLum.f k bt181.1 bt181.2.1 bt181.2.2 t184).bind fun bt185 => (some (bt185.1, bt185.2.1, bt185.2.2, 65535)))))) else (if x18 = 15 then ((blend_sat.f x179000 x179001 x179002).bind fun t188 => ((blend_setSat.f k x178000 x178001 x178002 t188).bind fun bt189 => ((blend_lum.f k x178000 x178001 x178002).bind fun t192 => ((blend_setLum.f k bt189.1 bt189.2.1 bt189.2.2 t192).bind fun bt193 => (some (bt193.1, bt193.2.1, bt193.2.2, 65535)))))) else (if x18 = 16 then ((blend_lum.f k x178000 x178001 x178002).bind fun t196 => ((blend_setLum.f k x179000 x179001 x179002 t196).bind fun bt197 => (some (bt197.1, bt197.2.1, bt197.2.2, 65535)))) else (if x18 = 17 then ((blend_lum.f k x179000 x179001 x179002).bind fun t200 => ((blend_setLum.f k x178000 x178001 x178002 t200).bind fun bt201 => (some (bt201.1, bt201.2.1, bt201.2.2, 65535)))) else ((chan.f x178000 x179000 x0 (ofsign x0)).bind fun t206 => ((chan.f x178001 x179001 x0 (ofsign x0)).bind fun t207 => ((chan.f x178002 x179002 x0 (ofsign x0)).bind fun t208 => (some (t206, t207, t208, 65535))))))))
def blend_Colors.f (k : Nat) (a0 : Int) (a1_0 : Int) (a1_1 : Int) (a1_2 : Int) (a1_3 : Int) (a2_0 : Int) (a2_1 : Int) (a2_2 : Int) (a2_3 : Int) : Option (Int × Int × Int × Int) := (pixel_Limit.f a1_0 a1_1 a1_2 a1_3).bind fun bt163 => ((blend_color.f bt163.1 bt163.2.1 bt163.2.2.1 bt163.2.2.2).bind fun bt167 => ((pixel_Limit.f a2_0 a2_1 a2_2 a2_3).bind fun bt170 => ((blend_color.f bt170.1 bt170.2.1 bt170.2.2.1 bt170.2.2.2).bind fun bt174 => (blend_Colors.j0 k a0 a0 bt167.1 bt167.2.1 bt167.2.2 bt174.1 bt174.2.1 bt174.2.2))))
theorem blend_Colors.mono_l : ∀ k, (∀ y0 y1 y2 y3 y4 y5 y6 y7, LeO (blend_Colors.j0 k y0 y1 y2 y3 y4 y5 y6 y7) (blend_Colors.j0 (k + 1) y0 y1 y2 y3 y4 y5 y6 y7))
  | 0 => fun _ _ _ _ _ _ _ _ r h => by simp [blend_Colors.j0] at h
  | k + 1 => by
    have ih0 := blend_Colors.mono_l k
    · intro y0 y1 y2 y3 y4 y5 y6 y7
      unfold blend_Colors.j0
      repeat' first
      | (with_reducible exact ih0 _ _ _ _ _ _ _ _)
      | (with_reducible exact blend_lum.mono _ _ _ _)
      | (with_reducible exact blend_setLum.mono _ _ _ _ _)
      | (with_reducible exact blend_setSat.mono _ _ _ _ _)
      | (with_reducible exact LeO.refl _)
      | (with_reducible exact LeO.none _)
      | (with_reducible refine LeO.ite ?_ ?_)
      | (with_reducible refine LeO.bind ?_ (fun _ => ?_))
      | exact ih0 _ _ _ _ _ _ _ _
      | exact blend_lum.mono _ _ _ _
      | exact blend_setLum.mono _ _ _ _ _
      | exact blend_setSat.mono _ _ _ _ _
      | exact LeO.none _
      | refine LeO.ite ?_ ?_
      | refine LeO.bind ?_ (fun _ => ?_)
theorem blend_Colors.mono : ∀ a0 a1 a2 a3 a4 a5 a6 a7 a8 k, LeO (blend_Colors.f k a0 a1 a2 a3 a4 a5 a6 a7 a8) (blend_Colors.f (k + 1) a0 a1 a2 a3 a4 a5 a6 a7 a8) := by
  intro a0 a1 a2 a3 a4 a5 a6 a7 a8 k
  have ih0 := blend_Colors.mono_l k
  unfold blend_Colors.f
  repeat' first
      | (with_reducible exact ih0 _ _ _ _ _ _ _ _)
      | (with_reducible exact blend_lum.mono _ _ _ _)
      | (with_reducible exact blend_setLum.mono _ _ _ _ _)
      | (with_reducible exact blend_setSat.mono _ _ _ _ _)
      | (with_reducible exact LeO.refl _)
      | (with_reducible exact LeO.none _)
      | (with_reducible refine LeO.ite ?_ ?_)
      | (with_reducible refine LeO.bind ?_ (fun _ => ?_))
      | exact ih0 _ _ _ _ _ _ _ _
      | exact blend_lum.mono _ _ _ _
      | exact blend_setLum.mono _ _ _ _ _
      | exact blend_setSat.mono _ _ _ _ _
      | exact LeO.none _
      | refine LeO.ite ?_ ?_
      | refine LeO.bind ?_ (fun _ => ?_)
def blend_Colors.T1 : Bool × List (List Nat × List Nat) := (true, [([], []), ([0], [0]), ([1, 1], [1]), ([], []), ([3, 2], [3]), ([4, 4], [4]), ([], []), ([], []), ([6, 2, 5, 0, 1, 2, 6, 7], [2, 6]), ([7, 5, 8, 0, 1, 2, 3, 4, 5, 6, 7, 8], [5, 7])])
def blend_Colors.B1 : List Nat := [0, 1, 3, 0, 15, 31, 0, 0, 255, 511]
theorem blend_Colors.tab1 : rtab .any (opsOf Try.f24 1) = blend_Colors.T1 := by kernel_rfl
theorem blend_Colors.bits1 : waitsOk blend_Colors.T1.2 blend_Colors.B1 = true := by kernel_rfl
def blend_Colors.T8 : Bool × List (List Nat × List Nat) := (true, [([], []), ([], []), ([], []), ([2], [2]), ([3], [3]), ([], []), ([5], [5]), ([6], [6]), ([1, 4, 7], [1, 4, 7]), ([0, 0, 1, 2, 3, 4, 5, 6, 7, 8], [0]), ([9, 8, 8, 0, 1, 2, 3, 4, 5, 6, 7, 8], [8, 9])])
def blend_Colors.B8 : List Nat := [0, 0, 0, 4, 12, 0, 32, 96, 254, 511, 1023]
theorem blend_Colors.tab8 : rtab .any (opsOf Try.f24 8) = blend_Colors.T8 := by kernel_rfl
theorem blend_Colors.bits8 : waitsOk blend_Colors.T8.2 blend_Colors.B8 = true := by kernel_rfl
def blend_Colors.T11 : Bool × List (List Nat × List Nat) := (true, [([], []), ([], []), ([1], [1]), ([0, 2, 2], [0, 2]), ([], []), ([4, 3], [4]), ([3, 5, 5], [3, 5]), ([6, 6, 0, 1, 2, 3, 4, 5, 6], [6])])
def blend_Colors.B11 : List Nat := [0, 0, 2, 7, 0, 31, 63, 127]
theorem blend_Colors.tab11 : rtab .any (opsOf Try.f24 11) = blend_Colors.T11 := by kernel_rfl
theorem blend_Colors.bits11 : waitsOk blend_Colors.T11.2 blend_Colors.B11 = true := by kernel_rfl
def blend_Colors.T13 : Bool × List (List Nat × List Nat) := (true, [([], []), ([], []), ([1], [1]), ([0, 2, 2], [0, 2]), ([], []), ([4, 3], [4]), ([3, 5, 5], [3, 5]), ([6, 6, 0, 1, 2, 3, 4, 5, 6], [6])])
def blend_Colors.B13 : List Nat := [0, 0, 2, 7, 0, 31, 63, 127]
theorem blend_Colors.tab13 : rtab .any (opsOf Try.f24 13) = blend_Colors.T13 := by kernel_rfl
theorem blend_Colors.bits13 : waitsOk blend_Colors.T13.2 blend_Colors.B13 = true := by kernel_rfl
set_option maxHeartbeats 8000000 in
set_option maxRecDepth 100000 in
theorem blend_Colors.calls (k : Nat) (a0 : Int) (a1_0 : Int) (a1_1 : Int) (a1_2 : Int) (a1_3 : Int) (a2_0 : Int) (a2_1 : Int) (a2_2 : Int) (a2_3 : Int) (r1 : Int) (r2 : Int) (r3 : Int) (r4 : Int) (w : World) (h : blend_Colors.f k a0 a1_0 a1_1 a1_2 a1_3 a2_0 a2_1 a2_2 a2_3 = some (r1, r2, r3, r4)) :
    Calls Try.prog 24 #[.int .i64 a0, .agg #[.int .i64 a1_0, .int .i64 a1_1, .int .i64 a1_2, .int .i64 a1_3], .agg #[.int .i64 a2_0, .int .i64 a2_1, .int .i64 a2_2, .int .i64 a2_3]] w fun e w' => e = .returned (.agg #[.int .i64 r1, .int .i64 r2, .int .i64 r3, .int .i64 r4]) ∧ Below w.heap.size w w' := by
 have hu32 := Try.underlying32
 have hu56 := Try.underlying56
 have HB := Aside0.mk (Below.refl w.heap.size w)
 have H : ((pixel_Limit.f a1_0 a1_1 a1_2 a1_3).bind fun bt163 => ((blend_color.f bt163.1 bt163.2.1 bt163.2.2.1 bt163.2.2.2).bind fun bt167 => ((pixel_Limit.f a2_0 a2_1 a2_2 a2_3).bind fun bt170 => ((blend_color.f bt170.1 bt170.2.1 bt170.2.2.1 bt170.2.2.2).bind fun bt174 => (blend_Colors.j0 k a0 a0 bt167.1 bt167.2.1 bt167.2.2 bt174.1 bt174.2.1 bt174.2.2))))) = some (r1, r2, r3, r4) := h
 clear h
 replace H := Option.bind_eq_some_iff.mp H
 obtain ⟨⟨t163, t164, t165, t166⟩, A40, H⟩ := H
 replace H : ((blend_color.f t163 t164 t165 t166).bind fun bt167 => ((pixel_Limit.f a2_0 a2_1 a2_2 a2_3).bind fun bt170 => ((blend_color.f bt170.1 bt170.2.1 bt170.2.2.1 bt170.2.2.2).bind fun bt174 => (blend_Colors.j0 k a0 a0 bt167.1 bt167.2.1 bt167.2.2 bt174.1 bt174.2.1 bt174.2.2)))) = some (r1, r2, r3, r4) := H
 have A4 := Aside0.mk A40
 clear A40
 replace H := Option.bind_eq_some_iff.mp H
 obtain ⟨⟨t167, t168, t169⟩, A50, H⟩ := H
 replace H : ((pixel_Limit.f a2_0 a2_1 a2_2 a2_3).bind fun bt170 => ((blend_color.f bt170.1 bt170.2.1 bt170.2.2.1 bt170.2.2.2).bind fun bt174 => (blend_Colors.j0 k a0 a0 t167 t168 t169 bt174.1 bt174.2.1 bt174.2.2))) = some (r1, r2, r3, r4) := H
 have A5 := Aside0.mk A50
 clear A50
 replace H := Option.bind_eq_some_iff.mp H
 obtain ⟨⟨t170, t171, t172, t173⟩, A60, H⟩ := H
 replace H : ((blend_color.f t170 t171 t172 t173).bind fun bt174 => (blend_Colors.j0 k a0 a0 t167 t168 t169 bt174.1 bt174.2.1 bt174.2.2)) = some (r1, r2, r3, r4) := H
 have A6 := Aside0.mk A60
 clear A60
 replace H := Option.bind_eq_some_iff.mp H
 obtain ⟨⟨t174, t175, t176⟩, A70, H⟩ := H
 replace H : (blend_Colors.j0 k a0 a0 t167 t168 t169 t174 t175 t176) = some (r1, r2, r3, r4) := H
 have A7 := Aside0.mk A70
 clear A70
 have HC8 := Aside0.mk H
 clear H
 go_enter Try.func24, Try.ntmps24
 try go_wp2_with (first | ((with_reducible refine gate_dst (N := 4) rfl ?_); refine box_event ?hg (N := 4) ?hd (cs := #[.int .i64 a1_0, .int .i64 a1_1, .int .i64 a1_2, .int .i64 a1_3]) (t := 32) ?hr ?_; (case hd => rfl); (case hg => rfl); (case hr => first | (go_simp; done) | (go_simp; rfl)); intro gA hg w9 hbox hb; have KA := Aside0.mk hbox; have GWA := ge_ hg (pb HB.out); have GEA := ge_ hg (pb HB.out); replace HB := Aside0.mk (below_step (pb HB.out) hb); clear hb hbox hg) | ((with_reducible refine gate_dst (N := 5) rfl ?_); refine box_event ?hg (N := 5) ?hd (cs := #[.int .i64 a2_0, .int .i64 a2_1, .int .i64 a2_2, .int .i64 a2_3]) (t := 32) ?hr ?_; (case hd => rfl); (case hg => rfl); (case hr => first | (go_simp; done) | (go_simp; rfl)); intro gB hg w10 hbox hb; have c0_ := cp_ hb KA; have KB := Aside0.mk hbox; have GWB := ge_ hg (pb1 HB.out GEA.out); have GEB := ge_ hg (pb1 HB.out GEA.out); have NAB := nl_ hg c0_; have NBA := ng_ hg c0_; replace KA := bb_ c0_ hb; replace HB := Aside0.mk (below_step (pb1 HB.out GEA.out) hb); clear c0_; clear hb hbox hg) | ((with_reducible refine gate_dst (N := 6) rfl ?_); refine box_event ?hg (N := 6) ?hd (cs := #[.int .i64 0, .int .i64 0, .int .i64 0, .int .i64 0]) (t := 32) ?hr ?_; (case hd => rfl); (case hg => rfl); (case hr => first | (go_simp; done) | (go_simp; rfl)); intro gC hg w11 hbox hb; have c0_ := cp_ hb KA; have c1_ := cp_ hb KB; have KC := Aside0.mk hbox; have GWC := ge_ hg (pb2 HB.out GEA.out GEB.out); have GEC := ge_ hg (pb2 HB.out GEA.out GEB.out); have NAC := nl_ hg c0_; have NCA := ng_ hg c0_; have NBC := nl_ hg c1_; have NCB := ng_ hg c1_; replace KA := bb_ c0_ hb; replace KB := bb_ c1_ hb; replace HB := Aside0.mk (below_step (pb2 HB.out GEA.out GEB.out) hb); clear c0_ c1_; clear hb hbox hg))
 replace KA := Aside0.mk (blk_drew KA.out)
 replace KB := Aside0.mk (blk_drew KB.out)
 replace KC := Aside0.mk (blk_drew KC.out)
 replace HB := Aside0.mk (below_drew1 HB.out)
 refine start_ (n := 10) (S := fun w' => w'.cell? ⟨gA, 0, none⟩ = some (.int .i64 a1_0) ∧ w'.cell? ⟨gA, 1, none⟩ = some (.int .i64 a1_1) ∧ w'.cell? ⟨gA, 2, none⟩ = some (.int .i64 a1_2) ∧ w'.cell? ⟨gA, 3, none⟩ = some (.int .i64 a1_3) ∧ w'.cell? ⟨gB, 0, none⟩ = some (.int .i64 a2_0) ∧ w'.cell? ⟨gB, 1, none⟩ = some (.int .i64 a2_1) ∧ w'.cell? ⟨gB, 2, none⟩ = some (.int .i64 a2_2) ∧ w'.cell? ⟨gB, 3, none⟩ = some (.int .i64 a2_3)) (ds := []) #[false, false, false, false, false, false, false, false, false, false] (by kernel_rfl) rfl rfl ⟨bc_ KA.out 0 rfl, bc_ KA.out 1 rfl, bc_ KA.out 2 rfl, bc_ KA.out 3 rfl, bc_ KB.out 0 rfl, bc_ KB.out 1 rfl, bc_ KB.out 2 rfl, bc_ KB.out 3 rfl⟩ (fun hHeld => ?_); refine with_tabW blend_Colors.tab1 blend_Colors.bits1 (fun HT_ HW_ => ?_)
 generalize w11.drew = w12 at KA KB KC HB hHeld ⊢
 refine take_ (i := 0) (N := some 12) (v := ?_) (a' := ?_) #[true, false, false, false, false, false, false, false, false, false] rfl rfl (take_ofW HT_.out HW_.out (by kernel_rfl)) (fun _ _ _ h => h) (Or.inl ⟨by rfl, ?_⟩) hHeld ?_ ?_
 rotate_left
 ·rintro w' ⟨s0, s1, s2, s3, s4, s5, s6, s7⟩
  go_simp
  with_reducible rfl
 rotate_left
 ·refine ps ?_
  rfl
 refine take_ (i := 3) (N := some 15) (v := ?_) (a' := ?_) #[true, false, false, true, false, false, false, false, false, false] rfl rfl (take_ofW HT_.out HW_.out (by kernel_rfl)) (fun _ _ _ h => h) (Or.inl ⟨by rfl, ?_⟩) hHeld ?_ ?_
 rotate_left
 ·rintro w' ⟨s0, s1, s2, s3, s4, s5, s6, s7⟩
  go_simp
  with_reducible rfl
 rotate_left
 ·refine ps ?_
  rfl
 refine join_ (σ := Nat × Nat) 2 #[true, true, true, true, true, true, true, true, false, false] (fun s_ => [(13, .agg #[.int .i64 t163, .int .i64 t164, .int .i64 t165, .int .i64 t166]), (14, .agg #[.int .i64 t167, .int .i64 t168, .int .i64 t169]), (16, .agg #[.int .i64 t170, .int .i64 t171, .int .i64 t172, .int .i64 t173]), (17, .agg #[.int .i64 t174, .int .i64 t175, .int .i64 t176]), (7, .pointer (some ⟨s_.1, 0, none⟩)), (8, .pointer (some ⟨s_.2, 0, none⟩))]) (fun s_ w' => (w'.cell? ⟨gA, 0, none⟩ = some (.int .i64 a1_0) ∧ w'.cell? ⟨gA, 1, none⟩ = some (.int .i64 a1_1) ∧ w'.cell? ⟨gA, 2, none⟩ = some (.int .i64 a1_2) ∧ w'.cell? ⟨gA, 3, none⟩ = some (.int .i64 a1_3) ∧ w'.cell? ⟨gB, 0, none⟩ = some (.int .i64 a2_0) ∧ w'.cell? ⟨gB, 1, none⟩ = some (.int .i64 a2_1) ∧ w'.cell? ⟨gB, 2, none⟩ = some (.int .i64 a2_2) ∧ w'.cell? ⟨gB, 3, none⟩ = some (.int .i64 a2_3)) ∧ (w'.heap[gA]? = some (.cells #[.int .i64 a1_0, .int .i64 a1_1, .int .i64 a1_2, .int .i64 a1_3] 32 (0, 0))) ∧ (w'.heap[gB]? = some (.cells #[.int .i64 a2_0, .int .i64 a2_1, .int .i64 a2_2, .int .i64 a2_3] 32 (0, 0))) ∧ (w'.heap[gC]? = some (.cells #[.int .i64 0, .int .i64 0, .int .i64 0, .int .i64 0] 32 (0, 0))) ∧ (w'.heap[s_.1]? = some (.cells #[.int .i64 0, .int .i64 0, .int .i64 0] 56 (0, 0))) ∧ (w'.heap[s_.2]? = some (.cells #[.int .i64 0, .int .i64 0, .int .i64 0] 56 (0, 0))) ∧ (w.heap.size ≤ s_.1) ∧ (w.heap.size ≤ s_.1) ∧ (gA ≠ s_.1) ∧ (s_.1 ≠ gA) ∧ (gB ≠ s_.1) ∧ (s_.1 ≠ gB) ∧ (gC ≠ s_.1) ∧ (s_.1 ≠ gC) ∧ (s_.2 ≠ s_.1) ∧ (s_.1 ≠ s_.2) ∧ (w.heap.size ≤ s_.2) ∧ (w.heap.size ≤ s_.2) ∧ (gA ≠ s_.2) ∧ (s_.2 ≠ gA) ∧ (gB ≠ s_.2) ∧ (s_.2 ≠ gB) ∧ (gC ≠ s_.2) ∧ (s_.2 ≠ gC) ∧ (Below w.heap.size w w')) ?_ ?_
 rotate_left
 ·intro hJ1_2_4_5_6_7
  refine join_ (σ := Nat) 3 #[true, true, true, true, true, true, true, false, false, false] (fun s_ => [(13, .agg #[.int .i64 t163, .int .i64 t164, .int .i64 t165, .int .i64 t166]), (14, .agg #[.int .i64 t167, .int .i64 t168, .int .i64 t169]), (16, .agg #[.int .i64 t170, .int .i64 t171, .int .i64 t172, .int .i64 t173]), (17, .agg #[.int .i64 t174, .int .i64 t175, .int .i64 t176]), (7, .pointer (some ⟨s_, 0, none⟩))]) (fun s_ w' => (w'.cell? ⟨gA, 0, none⟩ = some (.int .i64 a1_0) ∧ w'.cell? ⟨gA, 1, none⟩ = some (.int .i64 a1_1) ∧ w'.cell? ⟨gA, 2, none⟩ = some (.int .i64 a1_2) ∧ w'.cell? ⟨gA, 3, none⟩ = some (.int .i64 a1_3) ∧ w'.cell? ⟨gB, 0, none⟩ = some (.int .i64 a2_0) ∧ w'.cell? ⟨gB, 1, none⟩ = some (.int .i64 a2_1) ∧ w'.cell? ⟨gB, 2, none⟩ = some (.int .i64 a2_2) ∧ w'.cell? ⟨gB, 3, none⟩ = some (.int .i64 a2_3)) ∧ (w'.heap[gA]? = some (.cells #[.int .i64 a1_0, .int .i64 a1_1, .int .i64 a1_2, .int .i64 a1_3] 32 (0, 0))) ∧ (w'.heap[gB]? = some (.cells #[.int .i64 a2_0, .int .i64 a2_1, .int .i64 a2_2, .int .i64 a2_3] 32 (0, 0))) ∧ (w'.heap[gC]? = some (.cells #[.int .i64 0, .int .i64 0, .int .i64 0, .int .i64 0] 32 (0, 0))) ∧ (w'.heap[s_]? = some (.cells #[.int .i64 0, .int .i64 0, .int .i64 0] 56 (0, 0))) ∧ (w.heap.size ≤ s_) ∧ (w.heap.size ≤ s_) ∧ (gA ≠ s_) ∧ (s_ ≠ gA) ∧ (gB ≠ s_) ∧ (s_ ≠ gB) ∧ (gC ≠ s_) ∧ (s_ ≠ gC) ∧ (Below w.heap.size w w')) ?_ ?_
  rotate_left
  ·intro hJ1_2_4_5_6
   refine join_ (σ := Nat) 3 #[true, true, true, true, true, true, false, true, false, false] (fun s_ => [(13, .agg #[.int .i64 t163, .int .i64 t164, .int .i64 t165, .int .i64 t166]), (14, .agg #[.int .i64 t167, .int .i64 t168, .int .i64 t169]), (16, .agg #[.int .i64 t170, .int .i64 t171, .int .i64 t172, .int .i64 t173]), (17, .agg #[.int .i64 t174, .int .i64 t175, .int .i64 t176]), (8, .pointer (some ⟨s_, 0, none⟩))]) (fun s_ w' => (w'.cell? ⟨gA, 0, none⟩ = some (.int .i64 a1_0) ∧ w'.cell? ⟨gA, 1, none⟩ = some (.int .i64 a1_1) ∧ w'.cell? ⟨gA, 2, none⟩ = some (.int .i64 a1_2) ∧ w'.cell? ⟨gA, 3, none⟩ = some (.int .i64 a1_3) ∧ w'.cell? ⟨gB, 0, none⟩ = some (.int .i64 a2_0) ∧ w'.cell? ⟨gB, 1, none⟩ = some (.int .i64 a2_1) ∧ w'.cell? ⟨gB, 2, none⟩ = some (.int .i64 a2_2) ∧ w'.cell? ⟨gB, 3, none⟩ = some (.int .i64 a2_3)) ∧ (w'.heap[gA]? = some (.cells #[.int .i64 a1_0, .int .i64 a1_1, .int .i64 a1_2, .int .i64 a1_3] 32 (0, 0))) ∧ (w'.heap[gB]? = some (.cells #[.int .i64 a2_0, .int .i64 a2_1, .int .i64 a2_2, .int .i64 a2_3] 32 (0, 0))) ∧ (w'.heap[gC]? = some (.cells #[.int .i64 0, .int .i64 0, .int .i64 0, .int .i64 0] 32 (0, 0))) ∧ (w'.heap[s_]? = some (.cells #[.int .i64 0, .int .i64 0, .int .i64 0] 56 (0, 0))) ∧ (w.heap.size ≤ s_) ∧ (w.heap.size ≤ s_) ∧ (gA ≠ s_) ∧ (s_ ≠ gA) ∧ (gB ≠ s_) ∧ (s_ ≠ gB) ∧ (gC ≠ s_) ∧ (s_ ≠ gC) ∧ (Below w.heap.size w w')) ?_ ?_
   rotate_left
   ·intro hJ1_2_4_5_7
    refine join_ (σ := Nat × Nat) 3 #[true, true, true, true, true, false, true, true, false, false] (fun s_ => [(13, .agg #[.int .i64 t163, .int .i64 t164, .int .i64 t165, .int .i64 t166]), (14, .agg #[.int .i64 t167, .int .i64 t168, .int .i64 t169]), (16, .agg #[.int .i64 t170, .int .i64 t171, .int .i64 t172, .int .i64 t173]), (7, .pointer (some ⟨s_.1, 0, none⟩)), (8, .pointer (some ⟨s_.2, 0, none⟩))]) (fun s_ w' => (w'.cell? ⟨gA, 0, none⟩ = some (.int .i64 a1_0) ∧ w'.cell? ⟨gA, 1, none⟩ = some (.int .i64 a1_1) ∧ w'.cell? ⟨gA, 2, none⟩ = some (.int .i64 a1_2) ∧ w'.cell? ⟨gA, 3, none⟩ = some (.int .i64 a1_3) ∧ w'.cell? ⟨gB, 0, none⟩ = some (.int .i64 a2_0) ∧ w'.cell? ⟨gB, 1, none⟩ = some (.int .i64 a2_1) ∧ w'.cell? ⟨gB, 2, none⟩ = some (.int .i64 a2_2) ∧ w'.cell? ⟨gB, 3, none⟩ = some (.int .i64 a2_3)) ∧ (w'.heap[gA]? = some (.cells #[.int .i64 a1_0, .int .i64 a1_1, .int .i64 a1_2, .int .i64 a1_3] 32 (0, 0))) ∧ (w'.heap[gB]? = some (.cells #[.int .i64 a2_0, .int .i64 a2_1, .int .i64 a2_2, .int .i64 a2_3] 32 (0, 0))) ∧ (w'.heap[gC]? = some (.cells #[.int .i64 0, .int .i64 0, .int .i64 0, .int .i64 0] 32 (0, 0))) ∧ (w'.heap[s_.1]? = some (.cells #[.int .i64 0, .int .i64 0, .int .i64 0] 56 (0, 0))) ∧ (w'.heap[s_.2]? = some (.cells #[.int .i64 0, .int .i64 0, .int .i64 0] 56 (0, 0))) ∧ (w.heap.size ≤ s_.1) ∧ (w.heap.size ≤ s_.1) ∧ (gA ≠ s_.1) ∧ (s_.1 ≠ gA) ∧ (gB ≠ s_.1) ∧ (s_.1 ≠ gB) ∧ (gC ≠ s_.1) ∧ (s_.1 ≠ gC) ∧ (s_.2 ≠ s_.1) ∧ (s_.1 ≠ s_.2) ∧ (w.heap.size ≤ s_.2) ∧ (w.heap.size ≤ s_.2) ∧ (gA ≠ s_.2) ∧ (s_.2 ≠ gA) ∧ (gB ≠ s_.2) ∧ (s_.2 ≠ gB) ∧ (gC ≠ s_.2) ∧ (s_.2 ≠ gC) ∧ (Below w.heap.size w w')) ?_ ?_
    rotate_left
    ·intro hJ1_2_4_6_7
     refine join_ (σ := Unit) 4 #[true, true, true, true, true, true, false, false, false, false] (fun s_ => [(13, .agg #[.int .i64 t163, .int .i64 t164, .int .i64 t165, .int .i64 t166]), (14, .agg #[.int .i64 t167, .int .i64 t168, .int .i64 t169]), (16, .agg #[.int .i64 t170, .int .i64 t171, .int .i64 t172, .int .i64 t173]), (17, .agg #[.int .i64 t174, .int .i64 t175, .int .i64 t176])]) (fun s_ w' => (w'.cell? ⟨gA, 0, none⟩ = some (.int .i64 a1_0) ∧ w'.cell? ⟨gA, 1, none⟩ = some (.int .i64 a1_1) ∧ w'.cell? ⟨gA, 2, none⟩ = some (.int .i64 a1_2) ∧ w'.cell? ⟨gA, 3, none⟩ = some (.int .i64 a1_3) ∧ w'.cell? ⟨gB, 0, none⟩ = some (.int .i64 a2_0) ∧ w'.cell? ⟨gB, 1, none⟩ = some (.int .i64 a2_1) ∧ w'.cell? ⟨gB, 2, none⟩ = some (.int .i64 a2_2) ∧ w'.cell? ⟨gB, 3, none⟩ = some (.int .i64 a2_3)) ∧ (w'.heap[gA]? = some (.cells #[.int .i64 a1_0, .int .i64 a1_1, .int .i64 a1_2, .int .i64 a1_3] 32 (0, 0))) ∧ (w'.heap[gB]? = some (.cells #[.int .i64 a2_0, .int .i64 a2_1, .int .i64 a2_2, .int .i64 a2_3] 32 (0, 0))) ∧ (w'.heap[gC]? = some (.cells #[.int .i64 0, .int .i64 0, .int .i64 0, .int .i64 0] 32 (0, 0))) ∧ (Below w.heap.size w w')) ?_ ?_
     rotate_left
     ·intro hJ1_2_4_5
      refine join_ (σ := Nat) 4 #[true, true, true, true, true, false, true, false, false, false] (fun s_ => [(13, .agg #[.int .i64 t163, .int .i64 t164, .int .i64 t165, .int .i64 t166]), (14, .agg #[.int .i64 t167, .int .i64 t168, .int .i64 t169]), (16, .agg #[.int .i64 t170, .int .i64 t171, .int .i64 t172, .int .i64 t173]), (7, .pointer (some ⟨s_, 0, none⟩))]) (fun s_ w' => (w'.cell? ⟨gA, 0, none⟩ = some (.int .i64 a1_0) ∧ w'.cell? ⟨gA, 1, none⟩ = some (.int .i64 a1_1) ∧ w'.cell? ⟨gA, 2, none⟩ = some (.int .i64 a1_2) ∧ w'.cell? ⟨gA, 3, none⟩ = some (.int .i64 a1_3) ∧ w'.cell? ⟨gB, 0, none⟩ = some (.int .i64 a2_0) ∧ w'.cell? ⟨gB, 1, none⟩ = some (.int .i64 a2_1) ∧ w'.cell? ⟨gB, 2, none⟩ = some (.int .i64 a2_2) ∧ w'.cell? ⟨gB, 3, none⟩ = some (.int .i64 a2_3)) ∧ (w'.heap[gA]? = some (.cells #[.int .i64 a1_0, .int .i64 a1_1, .int .i64 a1_2, .int .i64 a1_3] 32 (0, 0))) ∧ (w'.heap[gB]? = some (.cells #[.int .i64 a2_0, .int .i64 a2_1, .int .i64 a2_2, .int .i64 a2_3] 32 (0, 0))) ∧ (w'.heap[gC]? = some (.cells #[.int .i64 0, .int .i64 0, .int .i64 0, .int .i64 0] 32 (0, 0))) ∧ (w'.heap[s_]? = some (.cells #[.int .i64 0, .int .i64 0, .int .i64 0] 56 (0, 0))) ∧ (w.heap.size ≤ s_) ∧ (w.heap.size ≤ s_) ∧ (gA ≠ s_) ∧ (s_ ≠ gA) ∧ (gB ≠ s_) ∧ (s_ ≠ gB) ∧ (gC ≠ s_) ∧ (s_ ≠ gC) ∧ (Below w.heap.size w w')) ?_ ?_
      rotate_left
      ·intro hJ1_2_4_6
       refine join_ (σ := Nat) 4 #[true, true, true, true, true, false, false, true, false, false] (fun s_ => [(13, .agg #[.int .i64 t163, .int .i64 t164, .int .i64 t165, .int .i64 t166]), (14, .agg #[.int .i64 t167, .int .i64 t168, .int .i64 t169]), (16, .agg #[.int .i64 t170, .int .i64 t171, .int .i64 t172, .int .i64 t173]), (8, .pointer (some ⟨s_, 0, none⟩))]) (fun s_ w' => (w'.cell? ⟨gA, 0, none⟩ = some (.int .i64 a1_0) ∧ w'.cell? ⟨gA, 1, none⟩ = some (.int .i64 a1_1) ∧ w'.cell? ⟨gA, 2, none⟩ = some (.int .i64 a1_2) ∧ w'.cell? ⟨gA, 3, none⟩ = some (.int .i64 a1_3) ∧ w'.cell? ⟨gB, 0, none⟩ = some (.int .i64 a2_0) ∧ w'.cell? ⟨gB, 1, none⟩ = some (.int .i64 a2_1) ∧ w'.cell? ⟨gB, 2, none⟩ = some (.int .i64 a2_2) ∧ w'.cell? ⟨gB, 3, none⟩ = some (.int .i64 a2_3)) ∧ (w'.heap[gA]? = some (.cells #[.int .i64 a1_0, .int .i64 a1_1, .int .i64 a1_2, .int .i64 a1_3] 32 (0, 0))) ∧ (w'.heap[gB]? = some (.cells #[.int .i64 a2_0, .int .i64 a2_1, .int .i64 a2_2, .int .i64 a2_3] 32 (0, 0))) ∧ (w'.heap[gC]? = some (.cells #[.int .i64 0, .int .i64 0, .int .i64 0, .int .i64 0] 32 (0, 0))) ∧ (w'.heap[s_]? = some (.cells #[.int .i64 0, .int .i64 0, .int .i64 0] 56 (0, 0))) ∧ (w.heap.size ≤ s_) ∧ (w.heap.size ≤ s_) ∧ (gA ≠ s_) ∧ (s_ ≠ gA) ∧ (gB ≠ s_) ∧ (s_ ≠ gB) ∧ (gC ≠ s_) ∧ (s_ ≠ gC) ∧ (Below w.heap.size w w')) ?_ ?_
       rotate_left
       ·intro hJ1_2_4_7
        refine join_ (σ := Nat × Nat) 4 #[true, true, true, true, false, false, true, true, false, false] (fun s_ => [(13, .agg #[.int .i64 t163, .int .i64 t164, .int .i64 t165, .int .i64 t166]), (14, .agg #[.int .i64 t167, .int .i64 t168, .int .i64 t169]), (7, .pointer (some ⟨s_.1, 0, none⟩)), (8, .pointer (some ⟨s_.2, 0, none⟩))]) (fun s_ w' => (w'.cell? ⟨gA, 0, none⟩ = some (.int .i64 a1_0) ∧ w'.cell? ⟨gA, 1, none⟩ = some (.int .i64 a1_1) ∧ w'.cell? ⟨gA, 2, none⟩ = some (.int .i64 a1_2) ∧ w'.cell? ⟨gA, 3, none⟩ = some (.int .i64 a1_3) ∧ w'.cell? ⟨gB, 0, none⟩ = some (.int .i64 a2_0) ∧ w'.cell? ⟨gB, 1, none⟩ = some (.int .i64 a2_1) ∧ w'.cell? ⟨gB, 2, none⟩ = some (.int .i64 a2_2) ∧ w'.cell? ⟨gB, 3, none⟩ = some (.int .i64 a2_3)) ∧ (w'.heap[gA]? = some (.cells #[.int .i64 a1_0, .int .i64 a1_1, .int .i64 a1_2, .int .i64 a1_3] 32 (0, 0))) ∧ (w'.heap[gB]? = some (.cells #[.int .i64 a2_0, .int .i64 a2_1, .int .i64 a2_2, .int .i64 a2_3] 32 (0, 0))) ∧ (w'.heap[gC]? = some (.cells #[.int .i64 0, .int .i64 0, .int .i64 0, .int .i64 0] 32 (0, 0))) ∧ (w'.heap[s_.1]? = some (.cells #[.int .i64 0, .int .i64 0, .int .i64 0] 56 (0, 0))) ∧ (w'.heap[s_.2]? = some (.cells #[.int .i64 0, .int .i64 0, .int .i64 0] 56 (0, 0))) ∧ (w.heap.size ≤ s_.1) ∧ (w.heap.size ≤ s_.1) ∧ (gA ≠ s_.1) ∧ (s_.1 ≠ gA) ∧ (gB ≠ s_.1) ∧ (s_.1 ≠ gB) ∧ (gC ≠ s_.1) ∧ (s_.1 ≠ gC) ∧ (s_.2 ≠ s_.1) ∧ (s_.1 ≠ s_.2) ∧ (w.heap.size ≤ s_.2) ∧ (w.heap.size ≤ s_.2) ∧ (gA ≠ s_.2) ∧ (s_.2 ≠ gA) ∧ (gB ≠ s_.2) ∧ (s_.2 ≠ gB) ∧ (gC ≠ s_.2) ∧ (s_.2 ≠ gC) ∧ (Below w.heap.size w w')) ?_ ?_
        rotate_left
        ·intro hJ1_2_6_7
         refine join_ (σ := Unit) 5 #[true, true, true, true, true, false, false, false, false, false] (fun s_ => [(13, .agg #[.int .i64 t163, .int .i64 t164, .int .i64 t165, .int .i64 t166]), (14, .agg #[.int .i64 t167, .int .i64 t168, .int .i64 t169]), (16, .agg #[.int .i64 t170, .int .i64 t171, .int .i64 t172, .int .i64 t173])]) (fun s_ w' => (w'.cell? ⟨gA, 0, none⟩ = some (.int .i64 a1_0) ∧ w'.cell? ⟨gA, 1, none⟩ = some (.int .i64 a1_1) ∧ w'.cell? ⟨gA, 2, none⟩ = some (.int .i64 a1_2) ∧ w'.cell? ⟨gA, 3, none⟩ = some (.int .i64 a1_3) ∧ w'.cell? ⟨gB, 0, none⟩ = some (.int .i64 a2_0) ∧ w'.cell? ⟨gB, 1, none⟩ = some (.int .i64 a2_1) ∧ w'.cell? ⟨gB, 2, none⟩ = some (.int .i64 a2_2) ∧ w'.cell? ⟨gB, 3, none⟩ = some (.int .i64 a2_3)) ∧ (w'.heap[gA]? = some (.cells #[.int .i64 a1_0, .int .i64 a1_1, .int .i64 a1_2, .int .i64 a1_3] 32 (0, 0))) ∧ (w'.heap[gB]? = some (.cells #[.int .i64 a2_0, .int .i64 a2_1, .int .i64 a2_2, .int .i64 a2_3] 32 (0, 0))) ∧ (w'.heap[gC]? = some (.cells #[.int .i64 0, .int .i64 0, .int .i64 0, .int .i64 0] 32 (0, 0))) ∧ (Below w.heap.size w w')) ?_ ?_
         rotate_left
         ·intro hJ1_2_4
          refine join_ (σ := Nat) 5 #[true, true, true, true, false, false, true, false, false, false] (fun s_ => [(13, .agg #[.int .i64 t163, .int .i64 t164, .int .i64 t165, .int .i64 t166]), (14, .agg #[.int .i64 t167, .int .i64 t168, .int .i64 t169]), (7, .pointer (some ⟨s_, 0, none⟩))]) (fun s_ w' => (w'.cell? ⟨gA, 0, none⟩ = some (.int .i64 a1_0) ∧ w'.cell? ⟨gA, 1, none⟩ = some (.int .i64 a1_1) ∧ w'.cell? ⟨gA, 2, none⟩ = some (.int .i64 a1_2) ∧ w'.cell? ⟨gA, 3, none⟩ = some (.int .i64 a1_3) ∧ w'.cell? ⟨gB, 0, none⟩ = some (.int .i64 a2_0) ∧ w'.cell? ⟨gB, 1, none⟩ = some (.int .i64 a2_1) ∧ w'.cell? ⟨gB, 2, none⟩ = some (.int .i64 a2_2) ∧ w'.cell? ⟨gB, 3, none⟩ = some (.int .i64 a2_3)) ∧ (w'.heap[gA]? = some (.cells #[.int .i64 a1_0, .int .i64 a1_1, .int .i64 a1_2, .int .i64 a1_3] 32 (0, 0))) ∧ (w'.heap[gB]? = some (.cells #[.int .i64 a2_0, .int .i64 a2_1, .int .i64 a2_2, .int .i64 a2_3] 32 (0, 0))) ∧ (w'.heap[gC]? = some (.cells #[.int .i64 0, .int .i64 0, .int .i64 0, .int .i64 0] 32 (0, 0))) ∧ (w'.heap[s_]? = some (.cells #[.int .i64 0, .int .i64 0, .int .i64 0] 56 (0, 0))) ∧ (w.heap.size ≤ s_) ∧ (w.heap.size ≤ s_) ∧ (gA ≠ s_) ∧ (s_ ≠ gA) ∧ (gB ≠ s_) ∧ (s_ ≠ gB) ∧ (gC ≠ s_) ∧ (s_ ≠ gC) ∧ (Below w.heap.size w w')) ?_ ?_
          rotate_left
          ·intro hJ1_2_6
           refine join_ (σ := Nat) 5 #[true, true, true, true, false, false, false, true, false, false] (fun s_ => [(13, .agg #[.int .i64 t163, .int .i64 t164, .int .i64 t165, .int .i64 t166]), (14, .agg #[.int .i64 t167, .int .i64 t168, .int .i64 t169]), (8, .pointer (some ⟨s_, 0, none⟩))]) (fun s_ w' => (w'.cell? ⟨gA, 0, none⟩ = some (.int .i64 a1_0) ∧ w'.cell? ⟨gA, 1, none⟩ = some (.int .i64 a1_1) ∧ w'.cell? ⟨gA, 2, none⟩ = some (.int .i64 a1_2) ∧ w'.cell? ⟨gA, 3, none⟩ = some (.int .i64 a1_3) ∧ w'.cell? ⟨gB, 0, none⟩ = some (.int .i64 a2_0) ∧ w'.cell? ⟨gB, 1, none⟩ = some (.int .i64 a2_1) ∧ w'.cell? ⟨gB, 2, none⟩ = some (.int .i64 a2_2) ∧ w'.cell? ⟨gB, 3, none⟩ = some (.int .i64 a2_3)) ∧ (w'.heap[gA]? = some (.cells #[.int .i64 a1_0, .int .i64 a1_1, .int .i64 a1_2, .int .i64 a1_3] 32 (0, 0))) ∧ (w'.heap[gB]? = some (.cells #[.int .i64 a2_0, .int .i64 a2_1, .int .i64 a2_2, .int .i64 a2_3] 32 (0, 0))) ∧ (w'.heap[gC]? = some (.cells #[.int .i64 0, .int .i64 0, .int .i64 0, .int .i64 0] 32 (0, 0))) ∧ (w'.heap[s_]? = some (.cells #[.int .i64 0, .int .i64 0, .int .i64 0] 56 (0, 0))) ∧ (w.heap.size ≤ s_) ∧ (w.heap.size ≤ s_) ∧ (gA ≠ s_) ∧ (s_ ≠ gA) ∧ (gB ≠ s_) ∧ (s_ ≠ gB) ∧ (gC ≠ s_) ∧ (s_ ≠ gC) ∧ (Below w.heap.size w w')) ?_ ?_
           rotate_left
           ·intro hJ1_2_7
            refine join_ (σ := Nat × Nat) 5 #[true, true, false, true, false, false, true, true, false, false] (fun s_ => [(13, .agg #[.int .i64 t163, .int .i64 t164, .int .i64 t165, .int .i64 t166]), (7, .pointer (some ⟨s_.1, 0, none⟩)), (8, .pointer (some ⟨s_.2, 0, none⟩))]) (fun s_ w' => (w'.cell? ⟨gA, 0, none⟩ = some (.int .i64 a1_0) ∧ w'.cell? ⟨gA, 1, none⟩ = some (.int .i64 a1_1) ∧ w'.cell? ⟨gA, 2, none⟩ = some (.int .i64 a1_2) ∧ w'.cell? ⟨gA, 3, none⟩ = some (.int .i64 a1_3) ∧ w'.cell? ⟨gB, 0, none⟩ = some (.int .i64 a2_0) ∧ w'.cell? ⟨gB, 1, none⟩ = some (.int .i64 a2_1) ∧ w'.cell? ⟨gB, 2, none⟩ = some (.int .i64 a2_2) ∧ w'.cell? ⟨gB, 3, none⟩ = some (.int .i64 a2_3)) ∧ (w'.heap[gA]? = some (.cells #[.int .i64 a1_0, .int .i64 a1_1, .int .i64 a1_2, .int .i64 a1_3] 32 (0, 0))) ∧ (w'.heap[gB]? = some (.cells #[.int .i64 a2_0, .int .i64 a2_1, .int .i64 a2_2, .int .i64 a2_3] 32 (0, 0))) ∧ (w'.heap[gC]? = some (.cells #[.int .i64 0, .int .i64 0, .int .i64 0, .int .i64 0] 32 (0, 0))) ∧ (w'.heap[s_.1]? = some (.cells #[.int .i64 0, .int .i64 0, .int .i64 0] 56 (0, 0))) ∧ (w'.heap[s_.2]? = some (.cells #[.int .i64 0, .int .i64 0, .int .i64 0] 56 (0, 0))) ∧ (w.heap.size ≤ s_.1) ∧ (w.heap.size ≤ s_.1) ∧ (gA ≠ s_.1) ∧ (s_.1 ≠ gA) ∧ (gB ≠ s_.1) ∧ (s_.1 ≠ gB) ∧ (gC ≠ s_.1) ∧ (s_.1 ≠ gC) ∧ (s_.2 ≠ s_.1) ∧ (s_.1 ≠ s_.2) ∧ (w.heap.size ≤ s_.2) ∧ (w.heap.size ≤ s_.2) ∧ (gA ≠ s_.2) ∧ (s_.2 ≠ gA) ∧ (gB ≠ s_.2) ∧ (s_.2 ≠ gB) ∧ (gC ≠ s_.2) ∧ (s_.2 ≠ gC) ∧ (Below w.heap.size w w')) ?_ ?_
            rotate_left
            ·intro hJ1_6_7
             refine join_ (σ := Unit) 6 #[true, true, true, true, false, false, false, false, false, false] (fun s_ => [(13, .agg #[.int .i64 t163, .int .i64 t164, .int .i64 t165, .int .i64 t166]), (14, .agg #[.int .i64 t167, .int .i64 t168, .int .i64 t169])]) (fun s_ w' => (w'.cell? ⟨gA, 0, none⟩ = some (.int .i64 a1_0) ∧ w'.cell? ⟨gA, 1, none⟩ = some (.int .i64 a1_1) ∧ w'.cell? ⟨gA, 2, none⟩ = some (.int .i64 a1_2) ∧ w'.cell? ⟨gA, 3, none⟩ = some (.int .i64 a1_3) ∧ w'.cell? ⟨gB, 0, none⟩ = some (.int .i64 a2_0) ∧ w'.cell? ⟨gB, 1, none⟩ = some (.int .i64 a2_1) ∧ w'.cell? ⟨gB, 2, none⟩ = some (.int .i64 a2_2) ∧ w'.cell? ⟨gB, 3, none⟩ = some (.int .i64 a2_3)) ∧ (w'.heap[gA]? = some (.cells #[.int .i64 a1_0, .int .i64 a1_1, .int .i64 a1_2, .int .i64 a1_3] 32 (0, 0))) ∧ (w'.heap[gB]? = some (.cells #[.int .i64 a2_0, .int .i64 a2_1, .int .i64 a2_2, .int .i64 a2_3] 32 (0, 0))) ∧ (w'.heap[gC]? = some (.cells #[.int .i64 0, .int .i64 0, .int .i64 0, .int .i64 0] 32 (0, 0))) ∧ (Below w.heap.size w w')) ?_ ?_
             rotate_left
             ·intro hJ1_2
              refine join_ (σ := Nat) 6 #[true, true, false, true, false, false, true, false, false, false] (fun s_ => [(13, .agg #[.int .i64 t163, .int .i64 t164, .int .i64 t165, .int .i64 t166]), (7, .pointer (some ⟨s_, 0, none⟩))]) (fun s_ w' => (w'.cell? ⟨gA, 0, none⟩ = some (.int .i64 a1_0) ∧ w'.cell? ⟨gA, 1, none⟩ = some (.int .i64 a1_1) ∧ w'.cell? ⟨gA, 2, none⟩ = some (.int .i64 a1_2) ∧ w'.cell? ⟨gA, 3, none⟩ = some (.int .i64 a1_3) ∧ w'.cell? ⟨gB, 0, none⟩ = some (.int .i64 a2_0) ∧ w'.cell? ⟨gB, 1, none⟩ = some (.int .i64 a2_1) ∧ w'.cell? ⟨gB, 2, none⟩ = some (.int .i64 a2_2) ∧ w'.cell? ⟨gB, 3, none⟩ = some (.int .i64 a2_3)) ∧ (w'.heap[gA]? = some (.cells #[.int .i64 a1_0, .int .i64 a1_1, .int .i64 a1_2, .int .i64 a1_3] 32 (0, 0))) ∧ (w'.heap[gB]? = some (.cells #[.int .i64 a2_0, .int .i64 a2_1, .int .i64 a2_2, .int .i64 a2_3] 32 (0, 0))) ∧ (w'.heap[gC]? = some (.cells #[.int .i64 0, .int .i64 0, .int .i64 0, .int .i64 0] 32 (0, 0))) ∧ (w'.heap[s_]? = some (.cells #[.int .i64 0, .int .i64 0, .int .i64 0] 56 (0, 0))) ∧ (w.heap.size ≤ s_) ∧ (w.heap.size ≤ s_) ∧ (gA ≠ s_) ∧ (s_ ≠ gA) ∧ (gB ≠ s_) ∧ (s_ ≠ gB) ∧ (gC ≠ s_) ∧ (s_ ≠ gC) ∧ (Below w.heap.size w w')) ?_ ?_
              rotate_left
              ·intro hJ1_6
               refine join_ (σ := Nat) 6 #[true, true, false, true, false, false, false, true, false, false] (fun s_ => [(13, .agg #[.int .i64 t163, .int .i64 t164, .int .i64 t165, .int .i64 t166]), (8, .pointer (some ⟨s_, 0, none⟩))]) (fun s_ w' => (w'.cell? ⟨gA, 0, none⟩ = some (.int .i64 a1_0) ∧ w'.cell? ⟨gA, 1, none⟩ = some (.int .i64 a1_1) ∧ w'.cell? ⟨gA, 2, none⟩ = some (.int .i64 a1_2) ∧ w'.cell? ⟨gA, 3, none⟩ = some (.int .i64 a1_3) ∧ w'.cell? ⟨gB, 0, none⟩ = some (.int .i64 a2_0) ∧ w'.cell? ⟨gB, 1, none⟩ = some (.int .i64 a2_1) ∧ w'.cell? ⟨gB, 2, none⟩ = some (.int .i64 a2_2) ∧ w'.cell? ⟨gB, 3, none⟩ = some (.int .i64 a2_3)) ∧ (w'.heap[gA]? = some (.cells #[.int .i64 a1_0, .int .i64 a1_1, .int .i64 a1_2, .int .i64 a1_3] 32 (0, 0))) ∧ (w'.heap[gB]? = some (.cells #[.int .i64 a2_0, .int .i64 a2_1, .int .i64 a2_2, .int .i64 a2_3] 32 (0, 0))) ∧ (w'.heap[gC]? = some (.cells #[.int .i64 0, .int .i64 0, .int .i64 0, .int .i64 0] 32 (0, 0))) ∧ (w'.heap[s_]? = some (.cells #[.int .i64 0, .int .i64 0, .int .i64 0] 56 (0, 0))) ∧ (w.heap.size ≤ s_) ∧ (w.heap.size ≤ s_) ∧ (gA ≠ s_) ∧ (s_ ≠ gA) ∧ (gB ≠ s_) ∧ (s_ ≠ gB) ∧ (gC ≠ s_) ∧ (s_ ≠ gC) ∧ (Below w.heap.size w w')) ?_ ?_
               rotate_left
               ·intro hJ1_7
                refine join_ (σ := Nat × Nat) 6 #[true, false, false, true, false, false, true, true, false, false] (fun s_ => [(7, .pointer (some ⟨s_.1, 0, none⟩)), (8, .pointer (some ⟨s_.2, 0, none⟩))]) (fun s_ w' => (w'.cell? ⟨gA, 0, none⟩ = some (.int .i64 a1_0) ∧ w'.cell? ⟨gA, 1, none⟩ = some (.int .i64 a1_1) ∧ w'.cell? ⟨gA, 2, none⟩ = some (.int .i64 a1_2) ∧ w'.cell? ⟨gA, 3, none⟩ = some (.int .i64 a1_3) ∧ w'.cell? ⟨gB, 0, none⟩ = some (.int .i64 a2_0) ∧ w'.cell? ⟨gB, 1, none⟩ = some (.int .i64 a2_1) ∧ w'.cell? ⟨gB, 2, none⟩ = some (.int .i64 a2_2) ∧ w'.cell? ⟨gB, 3, none⟩ = some (.int .i64 a2_3)) ∧ (w'.heap[gA]? = some (.cells #[.int .i64 a1_0, .int .i64 a1_1, .int .i64 a1_2, .int .i64 a1_3] 32 (0, 0))) ∧ (w'.heap[gB]? = some (.cells #[.int .i64 a2_0, .int .i64 a2_1, .int .i64 a2_2, .int .i64 a2_3] 32 (0, 0))) ∧ (w'.heap[gC]? = some (.cells #[.int .i64 0, .int .i64 0, .int .i64 0, .int .i64 0] 32 (0, 0))) ∧ (w'.heap[s_.1]? = some (.cells #[.int .i64 0, .int .i64 0, .int .i64 0] 56 (0, 0))) ∧ (w'.heap[s_.2]? = some (.cells #[.int .i64 0, .int .i64 0, .int .i64 0] 56 (0, 0))) ∧ (w.heap.size ≤ s_.1) ∧ (w.heap.size ≤ s_.1) ∧ (gA ≠ s_.1) ∧ (s_.1 ≠ gA) ∧ (gB ≠ s_.1) ∧ (s_.1 ≠ gB) ∧ (gC ≠ s_.1) ∧ (s_.1 ≠ gC) ∧ (s_.2 ≠ s_.1) ∧ (s_.1 ≠ s_.2) ∧ (w.heap.size ≤ s_.2) ∧ (w.heap.size ≤ s_.2) ∧ (gA ≠ s_.2) ∧ (s_.2 ≠ gA) ∧ (gB ≠ s_.2) ∧ (s_.2 ≠ gB) ∧ (gC ≠ s_.2) ∧ (s_.2 ≠ gC) ∧ (Below w.heap.size w w')) ?_ ?_
                rotate_left
                ·intro hJ6_7
                 refine join_ (σ := Unit) 7 #[true, true, false, true, false, false, false, false, false, false] (fun s_ => [(13, .agg #[.int .i64 t163, .int .i64 t164, .int .i64 t165, .int .i64 t166])]) (fun s_ w' => (w'.cell? ⟨gA, 0, none⟩ = some (.int .i64 a1_0) ∧ w'.cell? ⟨gA, 1, none⟩ = some (.int .i64 a1_1) ∧ w'.cell? ⟨gA, 2, none⟩ = some (.int .i64 a1_2) ∧ w'.cell? ⟨gA, 3, none⟩ = some (.int .i64 a1_3) ∧ w'.cell? ⟨gB, 0, none⟩ = some (.int .i64 a2_0) ∧ w'.cell? ⟨gB, 1, none⟩ = some (.int .i64 a2_1) ∧ w'.cell? ⟨gB, 2, none⟩ = some (.int .i64 a2_2) ∧ w'.cell? ⟨gB, 3, none⟩ = some (.int .i64 a2_3)) ∧ (w'.heap[gA]? = some (.cells #[.int .i64 a1_0, .int .i64 a1_1, .int .i64 a1_2, .int .i64 a1_3] 32 (0, 0))) ∧ (w'.heap[gB]? = some (.cells #[.int .i64 a2_0, .int .i64 a2_1, .int .i64 a2_2, .int .i64 a2_3] 32 (0, 0))) ∧ (w'.heap[gC]? = some (.cells #[.int .i64 0, .int .i64 0, .int .i64 0, .int .i64 0] 32 (0, 0))) ∧ (Below w.heap.size w w')) ?_ ?_
                 rotate_left
                 ·intro hJ1
                  refine join_ (σ := Nat) 7 #[true, false, false, true, false, false, true, false, false, false] (fun s_ => [(7, .pointer (some ⟨s_, 0, none⟩))]) (fun s_ w' => (w'.cell? ⟨gA, 0, none⟩ = some (.int .i64 a1_0) ∧ w'.cell? ⟨gA, 1, none⟩ = some (.int .i64 a1_1) ∧ w'.cell? ⟨gA, 2, none⟩ = some (.int .i64 a1_2) ∧ w'.cell? ⟨gA, 3, none⟩ = some (.int .i64 a1_3) ∧ w'.cell? ⟨gB, 0, none⟩ = some (.int .i64 a2_0) ∧ w'.cell? ⟨gB, 1, none⟩ = some (.int .i64 a2_1) ∧ w'.cell? ⟨gB, 2, none⟩ = some (.int .i64 a2_2) ∧ w'.cell? ⟨gB, 3, none⟩ = some (.int .i64 a2_3)) ∧ (w'.heap[gA]? = some (.cells #[.int .i64 a1_0, .int .i64 a1_1, .int .i64 a1_2, .int .i64 a1_3] 32 (0, 0))) ∧ (w'.heap[gB]? = some (.cells #[.int .i64 a2_0, .int .i64 a2_1, .int .i64 a2_2, .int .i64 a2_3] 32 (0, 0))) ∧ (w'.heap[gC]? = some (.cells #[.int .i64 0, .int .i64 0, .int .i64 0, .int .i64 0] 32 (0, 0))) ∧ (w'.heap[s_]? = some (.cells #[.int .i64 0, .int .i64 0, .int .i64 0] 56 (0, 0))) ∧ (w.heap.size ≤ s_) ∧ (w.heap.size ≤ s_) ∧ (gA ≠ s_) ∧ (s_ ≠ gA) ∧ (gB ≠ s_) ∧ (s_ ≠ gB) ∧ (gC ≠ s_) ∧ (s_ ≠ gC) ∧ (Below w.heap.size w w')) ?_ ?_
                  rotate_left
                  ·intro hJ6
                   refine join_ (σ := Nat) 7 #[true, false, false, true, false, false, false, true, false, false] (fun s_ => [(8, .pointer (some ⟨s_, 0, none⟩))]) (fun s_ w' => (w'.cell? ⟨gA, 0, none⟩ = some (.int .i64 a1_0) ∧ w'.cell? ⟨gA, 1, none⟩ = some (.int .i64 a1_1) ∧ w'.cell? ⟨gA, 2, none⟩ = some (.int .i64 a1_2) ∧ w'.cell? ⟨gA, 3, none⟩ = some (.int .i64 a1_3) ∧ w'.cell? ⟨gB, 0, none⟩ = some (.int .i64 a2_0) ∧ w'.cell? ⟨gB, 1, none⟩ = some (.int .i64 a2_1) ∧ w'.cell? ⟨gB, 2, none⟩ = some (.int .i64 a2_2) ∧ w'.cell? ⟨gB, 3, none⟩ = some (.int .i64 a2_3)) ∧ (w'.heap[gA]? = some (.cells #[.int .i64 a1_0, .int .i64 a1_1, .int .i64 a1_2, .int .i64 a1_3] 32 (0, 0))) ∧ (w'.heap[gB]? = some (.cells #[.int .i64 a2_0, .int .i64 a2_1, .int .i64 a2_2, .int .i64 a2_3] 32 (0, 0))) ∧ (w'.heap[gC]? = some (.cells #[.int .i64 0, .int .i64 0, .int .i64 0, .int .i64 0] 32 (0, 0))) ∧ (w'.heap[s_]? = some (.cells #[.int .i64 0, .int .i64 0, .int .i64 0] 56 (0, 0))) ∧ (w.heap.size ≤ s_) ∧ (w.heap.size ≤ s_) ∧ (gA ≠ s_) ∧ (s_ ≠ gA) ∧ (gB ≠ s_) ∧ (s_ ≠ gB) ∧ (gC ≠ s_) ∧ (s_ ≠ gC) ∧ (Below w.heap.size w w')) ?_ ?_
                   rotate_left
                   ·intro hJ7
                    refine three_ (i := 1) (j := 6) (k := 7) (Ni := some 13) (Nj := some 7) (Nk := some 8) #[true, true, false, true, false, false, false, false, false, false] #[true, false, false, true, false, false, true, false, false, false] #[true, false, false, true, false, false, false, true, false, false] rfl rfl rfl rfl rfl rfl (three_of HT_.out (by kernel_rfl)) (by decide) (by decide) (by decide) (fun K hK => ?_) (fun K hK => ?_) (fun K hK => ?_)
                    ·skip
                     refine goes_ Try.func35 (by kernel_rfl) rfl #[.agg #[.int .i64 a1_0, .int .i64 a1_1, .int .i64 a1_2, .int .i64 a1_3]] (by rfl) rfl rfl pm ?_
                     with_reducible refine (pixel_Limit.calls a1_0 a1_1 a1_2 a1_3 t163 t164 t165 t166 _ A4.out).mono ?_
                     rintro e w13 ⟨rfl, hb⟩
                     refine ⟨_, rfl, ?_⟩
                     replace KA := bb_ KA hb
                     replace KB := bb_ KB hb
                     replace KC := bb_ KC hb
                     replace HB := Aside0.mk (below_step HB.out hb)
                     try clear hb
                     refine hK.out _ _ ⟨bc_ KA.out 0 rfl, bc_ KA.out 1 rfl, bc_ KA.out 2 rfl, bc_ KA.out 3 rfl, bc_ KB.out 0 rfl, bc_ KB.out 1 rfl, bc_ KB.out 2 rfl, bc_ KB.out 3 rfl⟩ (fun hHeld => ?_)
                     clear hK K
                     refine norm_ (a' := ?_) ?_ ?_
                     rotate_left
                     ·show Act.put _ (some 13) _ = _
                      refine ps ?_
                      rfl
                     exact norm_ pp (hJ1 () _ ⟨hHeld, KA.out, KB.out, KC.out, HB.out⟩)
                    ·skip
                     refine box_step ?hg (N := 7) ?hd (cs := #[.int .i64 0, .int .i64 0, .int .i64 0]) (t := 56) ?hr ?_; (case hd => rfl); (case hg => rfl); (case hr => first | (go_simp; done) | (go_simp; rfl))
                     intro gD hg w13 hbox hb
                     have KD := Aside0.mk (hbox)
                     have GWD := ge_ hg HB.out
                     have GED := ge_ hg HB.out
                     have NAD := nl_ hg KA
                     have NDA := ng_ hg KA
                     have NBD := nl_ hg KB
                     have NDB := ng_ hg KB
                     have NCD := nl_ hg KC
                     have NDC := ng_ hg KC
                     replace KA := bb_ KA hb
                     replace KB := bb_ KB hb
                     replace KC := bb_ KC hb
                     replace HB := Aside0.mk (below_step HB.out hb)
                     clear hb hbox hg
                     refine hK.out _ _ ⟨bc_ KA.out 0 rfl, bc_ KA.out 1 rfl, bc_ KA.out 2 rfl, bc_ KA.out 3 rfl, bc_ KB.out 0 rfl, bc_ KB.out 1 rfl, bc_ KB.out 2 rfl, bc_ KB.out 3 rfl⟩ (fun hHeld => ?_)
                     clear hK K
                     refine norm_ (a' := ?_) ?_ ?_
                     rotate_left
                     ·show Act.put _ (some 7) _ = _
                      refine ps ?_
                      rfl
                     exact norm_ pp (hJ6 (gD) _ ⟨hHeld, KA.out, KB.out, KC.out, KD.out, GWD.out, GED.out, NAD.out, NDA.out, NBD.out, NDB.out, NCD.out, NDC.out, HB.out⟩)
                    ·skip
                     refine box_step ?hg (N := 8) ?hd (cs := #[.int .i64 0, .int .i64 0, .int .i64 0]) (t := 56) ?hr ?_; (case hd => rfl); (case hg => rfl); (case hr => first | (go_simp; done) | (go_simp; rfl))
                     intro gE hg w13 hbox hb
                     have KE := Aside0.mk (hbox)
                     have GWE := ge_ hg HB.out
                     have GEE := ge_ hg HB.out
                     have NAE := nl_ hg KA
                     have NEA := ng_ hg KA
                     have NBE := nl_ hg KB
                     have NEB := ng_ hg KB
                     have NCE := nl_ hg KC
                     have NEC := ng_ hg KC
                     replace KA := bb_ KA hb
                     replace KB := bb_ KB hb
                     replace KC := bb_ KC hb
                     replace HB := Aside0.mk (below_step HB.out hb)
                     clear hb hbox hg
                     refine hK.out _ _ ⟨bc_ KA.out 0 rfl, bc_ KA.out 1 rfl, bc_ KA.out 2 rfl, bc_ KA.out 3 rfl, bc_ KB.out 0 rfl, bc_ KB.out 1 rfl, bc_ KB.out 2 rfl, bc_ KB.out 3 rfl⟩ (fun hHeld => ?_)
                     clear hK K
                     refine norm_ (a' := ?_) ?_ ?_
                     rotate_left
                     ·show Act.put _ (some 8) _ = _
                      refine ps ?_
                      rfl
                     exact norm_ pp (hJ7 (gE) _ ⟨hHeld, KA.out, KB.out, KC.out, KE.out, GWE.out, GEE.out, NAE.out, NEA.out, NBE.out, NEB.out, NCE.out, NEC.out, HB.out⟩)
                   ·skip
                    rintro gE w14 ⟨hS_, h0_, h1_, h2_, h3_, h4_, h5_, h6_, h7_, h8_, h9_, h10_, h11_, h12_⟩
                    have n0_ : Aside0 (w14.heap[gA]? = some (.cells #[.int .i64 a1_0, .int .i64 a1_1, .int .i64 a1_2, .int .i64 a1_3] 32 (0, 0))) := ⟨h0_⟩
                    have n1_ : Aside0 (w14.heap[gB]? = some (.cells #[.int .i64 a2_0, .int .i64 a2_1, .int .i64 a2_2, .int .i64 a2_3] 32 (0, 0))) := ⟨h1_⟩
                    have n2_ : Aside0 (w14.heap[gC]? = some (.cells #[.int .i64 0, .int .i64 0, .int .i64 0, .int .i64 0] 32 (0, 0))) := ⟨h2_⟩
                    have n3_ : Aside0 (w14.heap[gE]? = some (.cells #[.int .i64 0, .int .i64 0, .int .i64 0] 56 (0, 0))) := ⟨h3_⟩
                    have n4_ : Aside0 (w.heap.size ≤ gE) := ⟨h4_⟩
                    have n5_ : Aside0 (w.heap.size ≤ gE) := ⟨h5_⟩
                    have n6_ : Aside0 (gA ≠ gE) := ⟨h6_⟩
                    have n7_ : Aside0 (gE ≠ gA) := ⟨h7_⟩
                    have n8_ : Aside0 (gB ≠ gE) := ⟨h8_⟩
                    have n9_ : Aside0 (gE ≠ gB) := ⟨h9_⟩
                    have n10_ : Aside0 (gC ≠ gE) := ⟨h10_⟩
                    have n11_ : Aside0 (gE ≠ gC) := ⟨h11_⟩
                    have n12_ : Aside0 (Below w.heap.size w w14) := ⟨h12_⟩
                    clear KA
                    clear KB
                    clear KC
                    clear HB
                    clear h0_ h1_ h2_ h3_ h4_ h5_ h6_ h7_ h8_ h9_ h10_ h11_ h12_
                    have KA := n0_
                    have KB := n1_
                    have KC := n2_
                    have KE := n3_
                    have GWE := n4_
                    have GEE := n5_
                    have NAE := n6_
                    have NEA := n7_
                    have NBE := n8_
                    have NEB := n9_
                    have NCE := n10_
                    have NEC := n11_
                    have HB := n12_
                    clear n0_ n1_ n2_ n3_ n4_ n5_ n6_ n7_ n8_ n9_ n10_ n11_ n12_
                    have hHeld : w14.cell? ⟨gA, 0, none⟩ = some (.int .i64 a1_0) ∧ w14.cell? ⟨gA, 1, none⟩ = some (.int .i64 a1_1) ∧ w14.cell? ⟨gA, 2, none⟩ = some (.int .i64 a1_2) ∧ w14.cell? ⟨gA, 3, none⟩ = some (.int .i64 a1_3) ∧ w14.cell? ⟨gB, 0, none⟩ = some (.int .i64 a2_0) ∧ w14.cell? ⟨gB, 1, none⟩ = some (.int .i64 a2_1) ∧ w14.cell? ⟨gB, 2, none⟩ = some (.int .i64 a2_2) ∧ w14.cell? ⟨gB, 3, none⟩ = some (.int .i64 a2_3) := hS_
                    refine norm_ (a' := ?_) ?_ ?_
                    rotate_left
                    ·simp only [putAll, Act.put, List.setIfInBounds_toArray, List.set_cons_zero, List.set_cons_succ]
                     rfl
                    refine two_ (i := 1) (j := 6) (Ni := some 13) (Nj := some 7) #[true, true, false, true, false, false, false, true, false, false] #[true, false, false, true, false, false, true, true, false, false] rfl rfl rfl rfl (two_of HT_.out (by kernel_rfl)) (by decide) (by decide) (fun K hK => ?_) (fun K hK => ?_)
                    ·skip
                     refine goes_ Try.func35 (by kernel_rfl) rfl #[.agg #[.int .i64 a1_0, .int .i64 a1_1, .int .i64 a1_2, .int .i64 a1_3]] (by rfl) rfl rfl pm ?_
                     with_reducible refine (pixel_Limit.calls a1_0 a1_1 a1_2 a1_3 t163 t164 t165 t166 _ A4.out).mono ?_
                     rintro e w15 ⟨rfl, hb⟩
                     refine ⟨_, rfl, ?_⟩
                     replace KA := bb_ KA hb
                     replace KB := bb_ KB hb
                     replace KC := bb_ KC hb
                     replace KE := bb_ KE hb
                     replace HB := Aside0.mk (below_step HB.out hb)
                     try clear hb
                     refine hK.out _ _ ⟨bc_ KA.out 0 rfl, bc_ KA.out 1 rfl, bc_ KA.out 2 rfl, bc_ KA.out 3 rfl, bc_ KB.out 0 rfl, bc_ KB.out 1 rfl, bc_ KB.out 2 rfl, bc_ KB.out 3 rfl⟩ (fun hHeld => ?_)
                     clear hK K
                     refine norm_ (a' := ?_) ?_ ?_
                     rotate_left
                     ·show Act.put _ (some 13) _ = _
                      refine ps ?_
                      rfl
                     exact norm_ pp (hJ1_7 (gE) _ ⟨hHeld, KA.out, KB.out, KC.out, KE.out, GWE.out, GEE.out, NAE.out, NEA.out, NBE.out, NEB.out, NCE.out, NEC.out, HB.out⟩)
                    ·skip
                     refine box_step ?hg (N := 7) ?hd (cs := #[.int .i64 0, .int .i64 0, .int .i64 0]) (t := 56) ?hr ?_; (case hd => rfl); (case hg => rfl); (case hr => first | (go_simp; done) | (go_simp; rfl))
                     intro gD hg w15 hbox hb
                     have KD := Aside0.mk (hbox)
                     have GWD := ge_ hg HB.out
                     have GED := ge_ hg HB.out
                     have NAD := nl_ hg KA
                     have NDA := ng_ hg KA
                     have NBD := nl_ hg KB
                     have NDB := ng_ hg KB
                     have NCD := nl_ hg KC
                     have NDC := ng_ hg KC
                     have NED := nl_ hg KE
                     have NDE := ng_ hg KE
                     replace KA := bb_ KA hb
                     replace KB := bb_ KB hb
                     replace KC := bb_ KC hb
                     replace KE := bb_ KE hb
                     replace HB := Aside0.mk (below_step HB.out hb)
                     clear hb hbox hg
                     refine hK.out _ _ ⟨bc_ KA.out 0 rfl, bc_ KA.out 1 rfl, bc_ KA.out 2 rfl, bc_ KA.out 3 rfl, bc_ KB.out 0 rfl, bc_ KB.out 1 rfl, bc_ KB.out 2 rfl, bc_ KB.out 3 rfl⟩ (fun hHeld => ?_)
                     clear hK K
                     refine norm_ (a' := ?_) ?_ ?_
                     rotate_left
                     ·show Act.put _ (some 7) _ = _
                      refine ps ?_
                      rfl
                     exact norm_ pp (hJ6_7 (gD, gE) _ ⟨hHeld, KA.out, KB.out, KC.out, KD.out, KE.out, GWD.out, GED.out, NAD.out, NDA.out, NBD.out, NDB.out, NCD.out, NDC.out, NED.out, NDE.out, GWE.out, GEE.out, NAE.out, NEA.out, NBE.out, NEB.out, NCE.out, NEC.out, HB.out⟩)
                  ·skip
                   rintro gD w14 ⟨hS_, h0_, h1_, h2_, h3_, h4_, h5_, h6_, h7_, h8_, h9_, h10_, h11_, h12_⟩
                   have n0_ : Aside0 (w14.heap[gA]? = some (.cells #[.int .i64 a1_0, .int .i64 a1_1, .int .i64 a1_2, .int .i64 a1_3] 32 (0, 0))) := ⟨h0_⟩
                   have n1_ : Aside0 (w14.heap[gB]? = some (.cells #[.int .i64 a2_0, .int .i64 a2_1, .int .i64 a2_2, .int .i64 a2_3] 32 (0, 0))) := ⟨h1_⟩
                   have n2_ : Aside0 (w14.heap[gC]? = some (.cells #[.int .i64 0, .int .i64 0, .int .i64 0, .int .i64 0] 32 (0, 0))) := ⟨h2_⟩
                   have n3_ : Aside0 (w14.heap[gD]? = some (.cells #[.int .i64 0, .int .i64 0, .int .i64 0] 56 (0, 0))) := ⟨h3_⟩
                   have n4_ : Aside0 (w.heap.size ≤ gD) := ⟨h4_⟩
                   have n5_ : Aside0 (w.heap.size ≤ gD) := ⟨h5_⟩
                   have n6_ : Aside0 (gA ≠ gD) := ⟨h6_⟩
                   have n7_ : Aside0 (gD ≠ gA) := ⟨h7_⟩
                   have n8_ : Aside0 (gB ≠ gD) := ⟨h8_⟩
                   have n9_ : Aside0 (gD ≠ gB) := ⟨h9_⟩
                   have n10_ : Aside0 (gC ≠ gD) := ⟨h10_⟩
                   have n11_ : Aside0 (gD ≠ gC) := ⟨h11_⟩
                   have n12_ : Aside0 (Below w.heap.size w w14) := ⟨h12_⟩
                   clear KA
                   clear KB
                   clear KC
                   clear HB
                   clear h0_ h1_ h2_ h3_ h4_ h5_ h6_ h7_ h8_ h9_ h10_ h11_ h12_
                   have KA := n0_
                   have KB := n1_
                   have KC := n2_
                   have KD := n3_
                   have GWD := n4_
                   have GED := n5_
                   have NAD := n6_
                   have NDA := n7_
                   have NBD := n8_
                   have NDB := n9_
                   have NCD := n10_
                   have NDC := n11_
                   have HB := n12_
                   clear n0_ n1_ n2_ n3_ n4_ n5_ n6_ n7_ n8_ n9_ n10_ n11_ n12_
                   have hHeld : w14.cell? ⟨gA, 0, none⟩ = some (.int .i64 a1_0) ∧ w14.cell? ⟨gA, 1, none⟩ = some (.int .i64 a1_1) ∧ w14.cell? ⟨gA, 2, none⟩ = some (.int .i64 a1_2) ∧ w14.cell? ⟨gA, 3, none⟩ = some (.int .i64 a1_3) ∧ w14.cell? ⟨gB, 0, none⟩ = some (.int .i64 a2_0) ∧ w14.cell? ⟨gB, 1, none⟩ = some (.int .i64 a2_1) ∧ w14.cell? ⟨gB, 2, none⟩ = some (.int .i64 a2_2) ∧ w14.cell? ⟨gB, 3, none⟩ = some (.int .i64 a2_3) := hS_
                   refine norm_ (a' := ?_) ?_ ?_
                   rotate_left
                   ·simp only [putAll, Act.put, List.setIfInBounds_toArray, List.set_cons_zero, List.set_cons_succ]
                    rfl
                   refine two_ (i := 1) (j := 7) (Ni := some 13) (Nj := some 8) #[true, true, false, true, false, false, true, false, false, false] #[true, false, false, true, false, false, true, true, false, false] rfl rfl rfl rfl (two_of HT_.out (by kernel_rfl)) (by decide) (by decide) (fun K hK => ?_) (fun K hK => ?_)
                   ·skip
                    refine goes_ Try.func35 (by kernel_rfl) rfl #[.agg #[.int .i64 a1_0, .int .i64 a1_1, .int .i64 a1_2, .int .i64 a1_3]] (by rfl) rfl rfl pm ?_
                    with_reducible refine (pixel_Limit.calls a1_0 a1_1 a1_2 a1_3 t163 t164 t165 t166 _ A4.out).mono ?_
                    rintro e w15 ⟨rfl, hb⟩
                    refine ⟨_, rfl, ?_⟩
                    replace KA := bb_ KA hb
                    replace KB := bb_ KB hb
                    replace KC := bb_ KC hb
                    replace KD := bb_ KD hb
                    replace HB := Aside0.mk (below_step HB.out hb)
                    try clear hb
                    refine hK.out _ _ ⟨bc_ KA.out 0 rfl, bc_ KA.out 1 rfl, bc_ KA.out 2 rfl, bc_ KA.out 3 rfl, bc_ KB.out 0 rfl, bc_ KB.out 1 rfl, bc_ KB.out 2 rfl, bc_ KB.out 3 rfl⟩ (fun hHeld => ?_)
                    clear hK K
                    refine norm_ (a' := ?_) ?_ ?_
                    rotate_left
                    ·show Act.put _ (some 13) _ = _
                     refine ps ?_
                     rfl
                    exact norm_ pp (hJ1_6 (gD) _ ⟨hHeld, KA.out, KB.out, KC.out, KD.out, GWD.out, GED.out, NAD.out, NDA.out, NBD.out, NDB.out, NCD.out, NDC.out, HB.out⟩)
                   ·skip
                    refine box_step ?hg (N := 8) ?hd (cs := #[.int .i64 0, .int .i64 0, .int .i64 0]) (t := 56) ?hr ?_; (case hd => rfl); (case hg => rfl); (case hr => first | (go_simp; done) | (go_simp; rfl))
                    intro gE hg w15 hbox hb
                    have KE := Aside0.mk (hbox)
                    have GWE := ge_ hg HB.out
                    have GEE := ge_ hg HB.out
                    have NAE := nl_ hg KA
                    have NEA := ng_ hg KA
                    have NBE := nl_ hg KB
                    have NEB := ng_ hg KB
                    have NCE := nl_ hg KC
                    have NEC := ng_ hg KC
                    have NDE := nl_ hg KD
                    have NED := ng_ hg KD
                    replace KA := bb_ KA hb
                    replace KB := bb_ KB hb
                    replace KC := bb_ KC hb
                    replace KD := bb_ KD hb
                    replace HB := Aside0.mk (below_step HB.out hb)
                    clear hb hbox hg
                    refine hK.out _ _ ⟨bc_ KA.out 0 rfl, bc_ KA.out 1 rfl, bc_ KA.out 2 rfl, bc_ KA.out 3 rfl, bc_ KB.out 0 rfl, bc_ KB.out 1 rfl, bc_ KB.out 2 rfl, bc_ KB.out 3 rfl⟩ (fun hHeld => ?_)
                    clear hK K
                    refine norm_ (a' := ?_) ?_ ?_
                    rotate_left
                    ·show Act.put _ (some 8) _ = _
                     refine ps ?_
                     rfl
                    exact norm_ pp (hJ6_7 (gD, gE) _ ⟨hHeld, KA.out, KB.out, KC.out, KD.out, KE.out, GWD.out, GED.out, NAD.out, NDA.out, NBD.out, NDB.out, NCD.out, NDC.out, NED.out, NDE.out, GWE.out, GEE.out, NAE.out, NEA.out, NBE.out, NEB.out, NCE.out, NEC.out, HB.out⟩)
                 ·skip
                  rintro _ w14 ⟨hS_, h0_, h1_, h2_, h3_⟩
                  have n0_ : Aside0 (w14.heap[gA]? = some (.cells #[.int .i64 a1_0, .int .i64 a1_1, .int .i64 a1_2, .int .i64 a1_3] 32 (0, 0))) := ⟨h0_⟩
                  have n1_ : Aside0 (w14.heap[gB]? = some (.cells #[.int .i64 a2_0, .int .i64 a2_1, .int .i64 a2_2, .int .i64 a2_3] 32 (0, 0))) := ⟨h1_⟩
                  have n2_ : Aside0 (w14.heap[gC]? = some (.cells #[.int .i64 0, .int .i64 0, .int .i64 0, .int .i64 0] 32 (0, 0))) := ⟨h2_⟩
                  have n3_ : Aside0 (Below w.heap.size w w14) := ⟨h3_⟩
                  clear KA
                  clear KB
                  clear KC
                  clear HB
                  clear h0_ h1_ h2_ h3_
                  have KA := n0_
                  have KB := n1_
                  have KC := n2_
                  have HB := n3_
                  clear n0_ n1_ n2_ n3_
                  have hHeld : w14.cell? ⟨gA, 0, none⟩ = some (.int .i64 a1_0) ∧ w14.cell? ⟨gA, 1, none⟩ = some (.int .i64 a1_1) ∧ w14.cell? ⟨gA, 2, none⟩ = some (.int .i64 a1_2) ∧ w14.cell? ⟨gA, 3, none⟩ = some (.int .i64 a1_3) ∧ w14.cell? ⟨gB, 0, none⟩ = some (.int .i64 a2_0) ∧ w14.cell? ⟨gB, 1, none⟩ = some (.int .i64 a2_1) ∧ w14.cell? ⟨gB, 2, none⟩ = some (.int .i64 a2_2) ∧ w14.cell? ⟨gB, 3, none⟩ = some (.int .i64 a2_3) := hS_
                  refine norm_ (a' := ?_) ?_ ?_
                  rotate_left
                  ·simp only [putAll, Act.put, List.setIfInBounds_toArray, List.set_cons_zero, List.set_cons_succ]
                   rfl
                  refine three_ (i := 2) (j := 6) (k := 7) (Ni := some 14) (Nj := some 7) (Nk := some 8) #[true, true, true, true, false, false, false, false, false, false] #[true, true, false, true, false, false, true, false, false, false] #[true, true, false, true, false, false, false, true, false, false] rfl rfl rfl rfl rfl rfl (three_of HT_.out (by kernel_rfl)) (by decide) (by decide) (by decide) (fun K hK => ?_) (fun K hK => ?_) (fun K hK => ?_)
                  ·skip
                   refine goes_ Try.func49 (by kernel_rfl) rfl #[.agg #[.int .i64 t163, .int .i64 t164, .int .i64 t165, .int .i64 t166]] (by rfl) rfl rfl pm ?_
                   with_reducible refine (blend_color.calls t163 t164 t165 t166 t167 t168 t169 _ A5.out).mono ?_
                   rintro e w15 ⟨rfl, hb⟩
                   refine ⟨_, rfl, ?_⟩
                   replace KA := bb_ KA hb
                   replace KB := bb_ KB hb
                   replace KC := bb_ KC hb
                   replace HB := Aside0.mk (below_step HB.out hb)
                   try clear hb
                   refine hK.out _ _ ⟨bc_ KA.out 0 rfl, bc_ KA.out 1 rfl, bc_ KA.out 2 rfl, bc_ KA.out 3 rfl, bc_ KB.out 0 rfl, bc_ KB.out 1 rfl, bc_ KB.out 2 rfl, bc_ KB.out 3 rfl⟩ (fun hHeld => ?_)
                   clear hK K
                   refine norm_ (a' := ?_) ?_ ?_
                   rotate_left
                   ·show Act.put _ (some 14) _ = _
                    refine ps ?_
                    rfl
                   exact norm_ pp (hJ1_2 () _ ⟨hHeld, KA.out, KB.out, KC.out, HB.out⟩)
                  ·skip
                   refine box_step ?hg (N := 7) ?hd (cs := #[.int .i64 0, .int .i64 0, .int .i64 0]) (t := 56) ?hr ?_; (case hd => rfl); (case hg => rfl); (case hr => first | (go_simp; done) | (go_simp; rfl))
                   intro gD hg w15 hbox hb
                   have KD := Aside0.mk (hbox)
                   have GWD := ge_ hg HB.out
                   have GED := ge_ hg HB.out
                   have NAD := nl_ hg KA
                   have NDA := ng_ hg KA
                   have NBD := nl_ hg KB
                   have NDB := ng_ hg KB
                   have NCD := nl_ hg KC
                   have NDC := ng_ hg KC
                   replace KA := bb_ KA hb
                   replace KB := bb_ KB hb
                   replace KC := bb_ KC hb
                   replace HB := Aside0.mk (below_step HB.out hb)
                   clear hb hbox hg
                   refine hK.out _ _ ⟨bc_ KA.out 0 rfl, bc_ KA.out 1 rfl, bc_ KA.out 2 rfl, bc_ KA.out 3 rfl, bc_ KB.out 0 rfl, bc_ KB.out 1 rfl, bc_ KB.out 2 rfl, bc_ KB.out 3 rfl⟩ (fun hHeld => ?_)
                   clear hK K
                   refine norm_ (a' := ?_) ?_ ?_
                   rotate_left
                   ·show Act.put _ (some 7) _ = _
                    refine ps ?_
                    rfl
                   exact norm_ pp (hJ1_6 (gD) _ ⟨hHeld, KA.out, KB.out, KC.out, KD.out, GWD.out, GED.out, NAD.out, NDA.out, NBD.out, NDB.out, NCD.out, NDC.out, HB.out⟩)
                  ·skip
                   refine box_step ?hg (N := 8) ?hd (cs := #[.int .i64 0, .int .i64 0, .int .i64 0]) (t := 56) ?hr ?_; (case hd => rfl); (case hg => rfl); (case hr => first | (go_simp; done) | (go_simp; rfl))
                   intro gE hg w15 hbox hb
                   have KE := Aside0.mk (hbox)
                   have GWE := ge_ hg HB.out
                   have GEE := ge_ hg HB.out
                   have NAE := nl_ hg KA
                   have NEA := ng_ hg KA
                   have NBE := nl_ hg KB
                   have NEB := ng_ hg KB
                   have NCE := nl_ hg KC
                   have NEC := ng_ hg KC
                   replace KA := bb_ KA hb
                   replace KB := bb_ KB hb
                   replace KC := bb_ KC hb
                   replace HB := Aside0.mk (below_step HB.out hb)
                   clear hb hbox hg
                   refine hK.out _ _ ⟨bc_ KA.out 0 rfl, bc_ KA.out 1 rfl, bc_ KA.out 2 rfl, bc_ KA.out 3 rfl, bc_ KB.out 0 rfl, bc_ KB.out 1 rfl, bc_ KB.out 2 rfl, bc_ KB.out 3 rfl⟩ (fun hHeld => ?_)
                   clear hK K
                   refine norm_ (a' := ?_) ?_ ?_
                   rotate_left
                   ·show Act.put _ (some 8) _ = _
                    refine ps ?_
                    rfl
                   exact norm_ pp (hJ1_7 (gE) _ ⟨hHeld, KA.out, KB.out, KC.out, KE.out, GWE.out, GEE.out, NAE.out, NEA.out, NBE.out, NEB.out, NCE.out, NEC.out, HB.out⟩)
                ·skip
                 rintro ⟨gD, gE⟩ w15 ⟨hS_, h0_, h1_, h2_, h3_, h4_, h5_, h6_, h7_, h8_, h9_, h10_, h11_, h12_, h13_, h14_, h15_, h16_, h17_, h18_, h19_, h20_, h21_, h22_, h23_⟩
                 have n0_ : Aside0 (w15.heap[gA]? = some (.cells #[.int .i64 a1_0, .int .i64 a1_1, .int .i64 a1_2, .int .i64 a1_3] 32 (0, 0))) := ⟨h0_⟩
                 have n1_ : Aside0 (w15.heap[gB]? = some (.cells #[.int .i64 a2_0, .int .i64 a2_1, .int .i64 a2_2, .int .i64 a2_3] 32 (0, 0))) := ⟨h1_⟩
                 have n2_ : Aside0 (w15.heap[gC]? = some (.cells #[.int .i64 0, .int .i64 0, .int .i64 0, .int .i64 0] 32 (0, 0))) := ⟨h2_⟩
                 have n3_ : Aside0 (w15.heap[gD]? = some (.cells #[.int .i64 0, .int .i64 0, .int .i64 0] 56 (0, 0))) := ⟨h3_⟩
                 have n4_ : Aside0 (w15.heap[gE]? = some (.cells #[.int .i64 0, .int .i64 0, .int .i64 0] 56 (0, 0))) := ⟨h4_⟩
                 have n5_ : Aside0 (w.heap.size ≤ gD) := ⟨h5_⟩
                 have n6_ : Aside0 (w.heap.size ≤ gD) := ⟨h6_⟩
                 have n7_ : Aside0 (gA ≠ gD) := ⟨h7_⟩
                 have n8_ : Aside0 (gD ≠ gA) := ⟨h8_⟩
                 have n9_ : Aside0 (gB ≠ gD) := ⟨h9_⟩
                 have n10_ : Aside0 (gD ≠ gB) := ⟨h10_⟩
                 have n11_ : Aside0 (gC ≠ gD) := ⟨h11_⟩
                 have n12_ : Aside0 (gD ≠ gC) := ⟨h12_⟩
                 have n13_ : Aside0 (gE ≠ gD) := ⟨h13_⟩
                 have n14_ : Aside0 (gD ≠ gE) := ⟨h14_⟩
                 have n15_ : Aside0 (w.heap.size ≤ gE) := ⟨h15_⟩
                 have n16_ : Aside0 (w.heap.size ≤ gE) := ⟨h16_⟩
                 have n17_ : Aside0 (gA ≠ gE) := ⟨h17_⟩
                 have n18_ : Aside0 (gE ≠ gA) := ⟨h18_⟩
                 have n19_ : Aside0 (gB ≠ gE) := ⟨h19_⟩
                 have n20_ : Aside0 (gE ≠ gB) := ⟨h20_⟩
                 have n21_ : Aside0 (gC ≠ gE) := ⟨h21_⟩
                 have n22_ : Aside0 (gE ≠ gC) := ⟨h22_⟩
                 have n23_ : Aside0 (Below w.heap.size w w15) := ⟨h23_⟩
                 clear KA
                 clear KB
                 clear KC
                 clear HB
                 clear h0_ h1_ h2_ h3_ h4_ h5_ h6_ h7_ h8_ h9_ h10_ h11_ h12_ h13_ h14_ h15_ h16_ h17_ h18_ h19_ h20_ h21_ h22_ h23_
                 have KA := n0_
                 have KB := n1_
                 have KC := n2_
                 have KD := n3_
                 have KE := n4_
                 have GWD := n5_
                 have GED := n6_
                 have NAD := n7_
                 have NDA := n8_
                 have NBD := n9_
                 have NDB := n10_
                 have NCD := n11_
                 have NDC := n12_
                 have NED := n13_
                 have NDE := n14_
                 have GWE := n15_
                 have GEE := n16_
                 have NAE := n17_
                 have NEA := n18_
                 have NBE := n19_
                 have NEB := n20_
                 have NCE := n21_
                 have NEC := n22_
                 have HB := n23_
                 clear n0_ n1_ n2_ n3_ n4_ n5_ n6_ n7_ n8_ n9_ n10_ n11_ n12_ n13_ n14_ n15_ n16_ n17_ n18_ n19_ n20_ n21_ n22_ n23_
                 have hHeld : w15.cell? ⟨gA, 0, none⟩ = some (.int .i64 a1_0) ∧ w15.cell? ⟨gA, 1, none⟩ = some (.int .i64 a1_1) ∧ w15.cell? ⟨gA, 2, none⟩ = some (.int .i64 a1_2) ∧ w15.cell? ⟨gA, 3, none⟩ = some (.int .i64 a1_3) ∧ w15.cell? ⟨gB, 0, none⟩ = some (.int .i64 a2_0) ∧ w15.cell? ⟨gB, 1, none⟩ = some (.int .i64 a2_1) ∧ w15.cell? ⟨gB, 2, none⟩ = some (.int .i64 a2_2) ∧ w15.cell? ⟨gB, 3, none⟩ = some (.int .i64 a2_3) := hS_
                 refine norm_ (a' := ?_) ?_ ?_
                 rotate_left
                 ·simp only [putAll, Act.put, List.setIfInBounds_toArray, List.set_cons_zero, List.set_cons_succ]
                  rfl
                 refine one_ (i := 1) (N := some 13) #[true, true, false, true, false, false, true, true, false, false] rfl rfl (one_of HT_.out (by kernel_rfl)) (by decide) (fun K hK => ?_)
                 refine goes_ Try.func35 (by kernel_rfl) rfl #[.agg #[.int .i64 a1_0, .int .i64 a1_1, .int .i64 a1_2, .int .i64 a1_3]] (by rfl) rfl rfl pm ?_
                 with_reducible refine (pixel_Limit.calls a1_0 a1_1 a1_2 a1_3 t163 t164 t165 t166 _ A4.out).mono ?_
                 rintro e w16 ⟨rfl, hb⟩
                 refine ⟨_, rfl, ?_⟩
                 replace KA := bb_ KA hb
                 replace KB := bb_ KB hb
                 replace KC := bb_ KC hb
                 replace KD := bb_ KD hb
                 replace KE := bb_ KE hb
                 replace HB := Aside0.mk (below_step HB.out hb)
                 try clear hb
                 refine hK.out _ _ ⟨bc_ KA.out 0 rfl, bc_ KA.out 1 rfl, bc_ KA.out 2 rfl, bc_ KA.out 3 rfl, bc_ KB.out 0 rfl, bc_ KB.out 1 rfl, bc_ KB.out 2 rfl, bc_ KB.out 3 rfl⟩ (fun hHeld => ?_)
                 clear hK K
                 refine norm_ (a' := ?_) ?_ ?_
                 rotate_left
                 ·show Act.put _ (some 13) _ = _
                  refine ps ?_
                  rfl
                 exact norm_ pp (hJ1_6_7 (gD, gE) _ ⟨hHeld, KA.out, KB.out, KC.out, KD.out, KE.out, GWD.out, GED.out, NAD.out, NDA.out, NBD.out, NDB.out, NCD.out, NDC.out, NED.out, NDE.out, GWE.out, GEE.out, NAE.out, NEA.out, NBE.out, NEB.out, NCE.out, NEC.out, HB.out⟩)
               ·skip
                rintro gE w15 ⟨hS_, h0_, h1_, h2_, h3_, h4_, h5_, h6_, h7_, h8_, h9_, h10_, h11_, h12_⟩
                have n0_ : Aside0 (w15.heap[gA]? = some (.cells #[.int .i64 a1_0, .int .i64 a1_1, .int .i64 a1_2, .int .i64 a1_3] 32 (0, 0))) := ⟨h0_⟩
                have n1_ : Aside0 (w15.heap[gB]? = some (.cells #[.int .i64 a2_0, .int .i64 a2_1, .int .i64 a2_2, .int .i64 a2_3] 32 (0, 0))) := ⟨h1_⟩
                have n2_ : Aside0 (w15.heap[gC]? = some (.cells #[.int .i64 0, .int .i64 0, .int .i64 0, .int .i64 0] 32 (0, 0))) := ⟨h2_⟩
                have n3_ : Aside0 (w15.heap[gE]? = some (.cells #[.int .i64 0, .int .i64 0, .int .i64 0] 56 (0, 0))) := ⟨h3_⟩
                have n4_ : Aside0 (w.heap.size ≤ gE) := ⟨h4_⟩
                have n5_ : Aside0 (w.heap.size ≤ gE) := ⟨h5_⟩
                have n6_ : Aside0 (gA ≠ gE) := ⟨h6_⟩
                have n7_ : Aside0 (gE ≠ gA) := ⟨h7_⟩
                have n8_ : Aside0 (gB ≠ gE) := ⟨h8_⟩
                have n9_ : Aside0 (gE ≠ gB) := ⟨h9_⟩
                have n10_ : Aside0 (gC ≠ gE) := ⟨h10_⟩
                have n11_ : Aside0 (gE ≠ gC) := ⟨h11_⟩
                have n12_ : Aside0 (Below w.heap.size w w15) := ⟨h12_⟩
                clear KA
                clear KB
                clear KC
                clear HB
                clear h0_ h1_ h2_ h3_ h4_ h5_ h6_ h7_ h8_ h9_ h10_ h11_ h12_
                have KA := n0_
                have KB := n1_
                have KC := n2_
                have KE := n3_
                have GWE := n4_
                have GEE := n5_
                have NAE := n6_
                have NEA := n7_
                have NBE := n8_
                have NEB := n9_
                have NCE := n10_
                have NEC := n11_
                have HB := n12_
                clear n0_ n1_ n2_ n3_ n4_ n5_ n6_ n7_ n8_ n9_ n10_ n11_ n12_
                have hHeld : w15.cell? ⟨gA, 0, none⟩ = some (.int .i64 a1_0) ∧ w15.cell? ⟨gA, 1, none⟩ = some (.int .i64 a1_1) ∧ w15.cell? ⟨gA, 2, none⟩ = some (.int .i64 a1_2) ∧ w15.cell? ⟨gA, 3, none⟩ = some (.int .i64 a1_3) ∧ w15.cell? ⟨gB, 0, none⟩ = some (.int .i64 a2_0) ∧ w15.cell? ⟨gB, 1, none⟩ = some (.int .i64 a2_1) ∧ w15.cell? ⟨gB, 2, none⟩ = some (.int .i64 a2_2) ∧ w15.cell? ⟨gB, 3, none⟩ = some (.int .i64 a2_3) := hS_
                refine norm_ (a' := ?_) ?_ ?_
                rotate_left
                ·simp only [putAll, Act.put, List.setIfInBounds_toArray, List.set_cons_zero, List.set_cons_succ]
                 rfl
                refine two_ (i := 2) (j := 6) (Ni := some 14) (Nj := some 7) #[true, true, true, true, false, false, false, true, false, false] #[true, true, false, true, false, false, true, true, false, false] rfl rfl rfl rfl (two_of HT_.out (by kernel_rfl)) (by decide) (by decide) (fun K hK => ?_) (fun K hK => ?_)
                ·skip
                 refine goes_ Try.func49 (by kernel_rfl) rfl #[.agg #[.int .i64 t163, .int .i64 t164, .int .i64 t165, .int .i64 t166]] (by rfl) rfl rfl pm ?_
                 with_reducible refine (blend_color.calls t163 t164 t165 t166 t167 t168 t169 _ A5.out).mono ?_
                 rintro e w16 ⟨rfl, hb⟩
                 refine ⟨_, rfl, ?_⟩
                 replace KA := bb_ KA hb
                 replace KB := bb_ KB hb
                 replace KC := bb_ KC hb
                 replace KE := bb_ KE hb
                 replace HB := Aside0.mk (below_step HB.out hb)
                 try clear hb
                 refine hK.out _ _ ⟨bc_ KA.out 0 rfl, bc_ KA.out 1 rfl, bc_ KA.out 2 rfl, bc_ KA.out 3 rfl, bc_ KB.out 0 rfl, bc_ KB.out 1 rfl, bc_ KB.out 2 rfl, bc_ KB.out 3 rfl⟩ (fun hHeld => ?_)
                 clear hK K
                 refine norm_ (a' := ?_) ?_ ?_
                 rotate_left
                 ·show Act.put _ (some 14) _ = _
                  refine ps ?_
                  rfl
                 exact norm_ pp (hJ1_2_7 (gE) _ ⟨hHeld, KA.out, KB.out, KC.out, KE.out, GWE.out, GEE.out, NAE.out, NEA.out, NBE.out, NEB.out, NCE.out, NEC.out, HB.out⟩)
                ·skip
                 refine box_step ?hg (N := 7) ?hd (cs := #[.int .i64 0, .int .i64 0, .int .i64 0]) (t := 56) ?hr ?_; (case hd => rfl); (case hg => rfl); (case hr => first | (go_simp; done) | (go_simp; rfl))
                 intro gD hg w16 hbox hb
                 have KD := Aside0.mk (hbox)
                 have GWD := ge_ hg HB.out
                 have GED := ge_ hg HB.out
                 have NAD := nl_ hg KA
                 have NDA := ng_ hg KA
                 have NBD := nl_ hg KB
                 have NDB := ng_ hg KB
                 have NCD := nl_ hg KC
                 have NDC := ng_ hg KC
                 have NED := nl_ hg KE
                 have NDE := ng_ hg KE
                 replace KA := bb_ KA hb
                 replace KB := bb_ KB hb
                 replace KC := bb_ KC hb
                 replace KE := bb_ KE hb
                 replace HB := Aside0.mk (below_step HB.out hb)
                 clear hb hbox hg
                 refine hK.out _ _ ⟨bc_ KA.out 0 rfl, bc_ KA.out 1 rfl, bc_ KA.out 2 rfl, bc_ KA.out 3 rfl, bc_ KB.out 0 rfl, bc_ KB.out 1 rfl, bc_ KB.out 2 rfl, bc_ KB.out 3 rfl⟩ (fun hHeld => ?_)
                 clear hK K
                 refine norm_ (a' := ?_) ?_ ?_
                 rotate_left
                 ·show Act.put _ (some 7) _ = _
                  refine ps ?_
                  rfl
                 exact norm_ pp (hJ1_6_7 (gD, gE) _ ⟨hHeld, KA.out, KB.out, KC.out, KD.out, KE.out, GWD.out, GED.out, NAD.out, NDA.out, NBD.out, NDB.out, NCD.out, NDC.out, NED.out, NDE.out, GWE.out, GEE.out, NAE.out, NEA.out, NBE.out, NEB.out, NCE.out, NEC.out, HB.out⟩)
              ·skip
               rintro gD w15 ⟨hS_, h0_, h1_, h2_, h3_, h4_, h5_, h6_, h7_, h8_, h9_, h10_, h11_, h12_⟩
               have n0_ : Aside0 (w15.heap[gA]? = some (.cells #[.int .i64 a1_0, .int .i64 a1_1, .int .i64 a1_2, .int .i64 a1_3] 32 (0, 0))) := ⟨h0_⟩
               have n1_ : Aside0 (w15.heap[gB]? = some (.cells #[.int .i64 a2_0, .int .i64 a2_1, .int .i64 a2_2, .int .i64 a2_3] 32 (0, 0))) := ⟨h1_⟩
               have n2_ : Aside0 (w15.heap[gC]? = some (.cells #[.int .i64 0, .int .i64 0, .int .i64 0, .int .i64 0] 32 (0, 0))) := ⟨h2_⟩
               have n3_ : Aside0 (w15.heap[gD]? = some (.cells #[.int .i64 0, .int .i64 0, .int .i64 0] 56 (0, 0))) := ⟨h3_⟩
               have n4_ : Aside0 (w.heap.size ≤ gD) := ⟨h4_⟩
               have n5_ : Aside0 (w.heap.size ≤ gD) := ⟨h5_⟩
               have n6_ : Aside0 (gA ≠ gD) := ⟨h6_⟩
               have n7_ : Aside0 (gD ≠ gA) := ⟨h7_⟩
               have n8_ : Aside0 (gB ≠ gD) := ⟨h8_⟩
               have n9_ : Aside0 (gD ≠ gB) := ⟨h9_⟩
               have n10_ : Aside0 (gC ≠ gD) := ⟨h10_⟩
               have n11_ : Aside0 (gD ≠ gC) := ⟨h11_⟩
               have n12_ : Aside0 (Below w.heap.size w w15) := ⟨h12_⟩
               clear KA
               clear KB
               clear KC
               clear HB
               clear h0_ h1_ h2_ h3_ h4_ h5_ h6_ h7_ h8_ h9_ h10_ h11_ h12_
               have KA := n0_
               have KB := n1_
               have KC := n2_
               have KD := n3_
               have GWD := n4_
               have GED := n5_
               have NAD := n6_
               have NDA := n7_
               have NBD := n8_
               have NDB := n9_
               have NCD := n10_
               have NDC := n11_
               have HB := n12_
               clear n0_ n1_ n2_ n3_ n4_ n5_ n6_ n7_ n8_ n9_ n10_ n11_ n12_
               have hHeld : w15.cell? ⟨gA, 0, none⟩ = some (.int .i64 a1_0) ∧ w15.cell? ⟨gA, 1, none⟩ = some (.int .i64 a1_1) ∧ w15.cell? ⟨gA, 2, none⟩ = some (.int .i64 a1_2) ∧ w15.cell? ⟨gA, 3, none⟩ = some (.int .i64 a1_3) ∧ w15.cell? ⟨gB, 0, none⟩ = some (.int .i64 a2_0) ∧ w15.cell? ⟨gB, 1, none⟩ = some (.int .i64 a2_1) ∧ w15.cell? ⟨gB, 2, none⟩ = some (.int .i64 a2_2) ∧ w15.cell? ⟨gB, 3, none⟩ = some (.int .i64 a2_3) := hS_
               refine norm_ (a' := ?_) ?_ ?_
               rotate_left
               ·simp only [putAll, Act.put, List.setIfInBounds_toArray, List.set_cons_zero, List.set_cons_succ]
                rfl
               refine two_ (i := 2) (j := 7) (Ni := some 14) (Nj := some 8) #[true, true, true, true, false, false, true, false, false, false] #[true, true, false, true, false, false, true, true, false, false] rfl rfl rfl rfl (two_of HT_.out (by kernel_rfl)) (by decide) (by decide) (fun K hK => ?_) (fun K hK => ?_)
               ·skip
                refine goes_ Try.func49 (by kernel_rfl) rfl #[.agg #[.int .i64 t163, .int .i64 t164, .int .i64 t165, .int .i64 t166]] (by rfl) rfl rfl pm ?_
                with_reducible refine (blend_color.calls t163 t164 t165 t166 t167 t168 t169 _ A5.out).mono ?_
                rintro e w16 ⟨rfl, hb⟩
                refine ⟨_, rfl, ?_⟩
                replace KA := bb_ KA hb
                replace KB := bb_ KB hb
                replace KC := bb_ KC hb
                replace KD := bb_ KD hb
                replace HB := Aside0.mk (below_step HB.out hb)
                try clear hb
                refine hK.out _ _ ⟨bc_ KA.out 0 rfl, bc_ KA.out 1 rfl, bc_ KA.out 2 rfl, bc_ KA.out 3 rfl, bc_ KB.out 0 rfl, bc_ KB.out 1 rfl, bc_ KB.out 2 rfl, bc_ KB.out 3 rfl⟩ (fun hHeld => ?_)
                clear hK K
                refine norm_ (a' := ?_) ?_ ?_
                rotate_left
                ·show Act.put _ (some 14) _ = _
                 refine ps ?_
                 rfl
                exact norm_ pp (hJ1_2_6 (gD) _ ⟨hHeld, KA.out, KB.out, KC.out, KD.out, GWD.out, GED.out, NAD.out, NDA.out, NBD.out, NDB.out, NCD.out, NDC.out, HB.out⟩)
               ·skip
                refine box_step ?hg (N := 8) ?hd (cs := #[.int .i64 0, .int .i64 0, .int .i64 0]) (t := 56) ?hr ?_; (case hd => rfl); (case hg => rfl); (case hr => first | (go_simp; done) | (go_simp; rfl))
                intro gE hg w16 hbox hb
                have KE := Aside0.mk (hbox)
                have GWE := ge_ hg HB.out
                have GEE := ge_ hg HB.out
                have NAE := nl_ hg KA
                have NEA := ng_ hg KA
                have NBE := nl_ hg KB
                have NEB := ng_ hg KB
                have NCE := nl_ hg KC
                have NEC := ng_ hg KC
                have NDE := nl_ hg KD
                have NED := ng_ hg KD
                replace KA := bb_ KA hb
                replace KB := bb_ KB hb
                replace KC := bb_ KC hb
                replace KD := bb_ KD hb
                replace HB := Aside0.mk (below_step HB.out hb)
                clear hb hbox hg
                refine hK.out _ _ ⟨bc_ KA.out 0 rfl, bc_ KA.out 1 rfl, bc_ KA.out 2 rfl, bc_ KA.out 3 rfl, bc_ KB.out 0 rfl, bc_ KB.out 1 rfl, bc_ KB.out 2 rfl, bc_ KB.out 3 rfl⟩ (fun hHeld => ?_)
                clear hK K
                refine norm_ (a' := ?_) ?_ ?_
                rotate_left
                ·show Act.put _ (some 8) _ = _
                 refine ps ?_
                 rfl
                exact norm_ pp (hJ1_6_7 (gD, gE) _ ⟨hHeld, KA.out, KB.out, KC.out, KD.out, KE.out, GWD.out, GED.out, NAD.out, NDA.out, NBD.out, NDB.out, NCD.out, NDC.out, NED.out, NDE.out, GWE.out, GEE.out, NAE.out, NEA.out, NBE.out, NEB.out, NCE.out, NEC.out, HB.out⟩)
             ·skip
              rintro _ w15 ⟨hS_, h0_, h1_, h2_, h3_⟩
              have n0_ : Aside0 (w15.heap[gA]? = some (.cells #[.int .i64 a1_0, .int .i64 a1_1, .int .i64 a1_2, .int .i64 a1_3] 32 (0, 0))) := ⟨h0_⟩
              have n1_ : Aside0 (w15.heap[gB]? = some (.cells #[.int .i64 a2_0, .int .i64 a2_1, .int .i64 a2_2, .int .i64 a2_3] 32 (0, 0))) := ⟨h1_⟩
              have n2_ : Aside0 (w15.heap[gC]? = some (.cells #[.int .i64 0, .int .i64 0, .int .i64 0, .int .i64 0] 32 (0, 0))) := ⟨h2_⟩
              have n3_ : Aside0 (Below w.heap.size w w15) := ⟨h3_⟩
              clear KA
              clear KB
              clear KC
              clear HB
              clear h0_ h1_ h2_ h3_
              have KA := n0_
              have KB := n1_
              have KC := n2_
              have HB := n3_
              clear n0_ n1_ n2_ n3_
              have hHeld : w15.cell? ⟨gA, 0, none⟩ = some (.int .i64 a1_0) ∧ w15.cell? ⟨gA, 1, none⟩ = some (.int .i64 a1_1) ∧ w15.cell? ⟨gA, 2, none⟩ = some (.int .i64 a1_2) ∧ w15.cell? ⟨gA, 3, none⟩ = some (.int .i64 a1_3) ∧ w15.cell? ⟨gB, 0, none⟩ = some (.int .i64 a2_0) ∧ w15.cell? ⟨gB, 1, none⟩ = some (.int .i64 a2_1) ∧ w15.cell? ⟨gB, 2, none⟩ = some (.int .i64 a2_2) ∧ w15.cell? ⟨gB, 3, none⟩ = some (.int .i64 a2_3) := hS_
              refine norm_ (a' := ?_) ?_ ?_
              rotate_left
              ·simp only [putAll, Act.put, List.setIfInBounds_toArray, List.set_cons_zero, List.set_cons_succ]
               rfl
              refine three_ (i := 4) (j := 6) (k := 7) (Ni := some 16) (Nj := some 7) (Nk := some 8) #[true, true, true, true, true, false, false, false, false, false] #[true, true, true, true, false, false, true, false, false, false] #[true, true, true, true, false, false, false, true, false, false] rfl rfl rfl rfl rfl rfl (three_of HT_.out (by kernel_rfl)) (by decide) (by decide) (by decide) (fun K hK => ?_) (fun K hK => ?_) (fun K hK => ?_)
              ·skip
               refine goes_ Try.func35 (by kernel_rfl) rfl #[.agg #[.int .i64 a2_0, .int .i64 a2_1, .int .i64 a2_2, .int .i64 a2_3]] (by rfl) rfl rfl pm ?_
               with_reducible refine (pixel_Limit.calls a2_0 a2_1 a2_2 a2_3 t170 t171 t172 t173 _ A6.out).mono ?_
               rintro e w16 ⟨rfl, hb⟩
               refine ⟨_, rfl, ?_⟩
               replace KA := bb_ KA hb
               replace KB := bb_ KB hb
               replace KC := bb_ KC hb
               replace HB := Aside0.mk (below_step HB.out hb)
               try clear hb
               refine hK.out _ _ ⟨bc_ KA.out 0 rfl, bc_ KA.out 1 rfl, bc_ KA.out 2 rfl, bc_ KA.out 3 rfl, bc_ KB.out 0 rfl, bc_ KB.out 1 rfl, bc_ KB.out 2 rfl, bc_ KB.out 3 rfl⟩ (fun hHeld => ?_)
               clear hK K
               refine norm_ (a' := ?_) ?_ ?_
               rotate_left
               ·show Act.put _ (some 16) _ = _
                refine ps ?_
                rfl
               exact norm_ pp (hJ1_2_4 () _ ⟨hHeld, KA.out, KB.out, KC.out, HB.out⟩)
              ·skip
               refine box_step ?hg (N := 7) ?hd (cs := #[.int .i64 0, .int .i64 0, .int .i64 0]) (t := 56) ?hr ?_; (case hd => rfl); (case hg => rfl); (case hr => first | (go_simp; done) | (go_simp; rfl))
               intro gD hg w16 hbox hb
               have KD := Aside0.mk (hbox)
               have GWD := ge_ hg HB.out
               have GED := ge_ hg HB.out
               have NAD := nl_ hg KA
               have NDA := ng_ hg KA
               have NBD := nl_ hg KB
               have NDB := ng_ hg KB
               have NCD := nl_ hg KC
               have NDC := ng_ hg KC
               replace KA := bb_ KA hb
               replace KB := bb_ KB hb
               replace KC := bb_ KC hb
               replace HB := Aside0.mk (below_step HB.out hb)
               clear hb hbox hg
               refine hK.out _ _ ⟨bc_ KA.out 0 rfl, bc_ KA.out 1 rfl, bc_ KA.out 2 rfl, bc_ KA.out 3 rfl, bc_ KB.out 0 rfl, bc_ KB.out 1 rfl, bc_ KB.out 2 rfl, bc_ KB.out 3 rfl⟩ (fun hHeld => ?_)
               clear hK K
               refine norm_ (a' := ?_) ?_ ?_
               rotate_left
               ·show Act.put _ (some 7) _ = _
                refine ps ?_
                rfl
               exact norm_ pp (hJ1_2_6 (gD) _ ⟨hHeld, KA.out, KB.out, KC.out, KD.out, GWD.out, GED.out, NAD.out, NDA.out, NBD.out, NDB.out, NCD.out, NDC.out, HB.out⟩)
              ·skip
               refine box_step ?hg (N := 8) ?hd (cs := #[.int .i64 0, .int .i64 0, .int .i64 0]) (t := 56) ?hr ?_; (case hd => rfl); (case hg => rfl); (case hr => first | (go_simp; done) | (go_simp; rfl))
               intro gE hg w16 hbox hb
               have KE := Aside0.mk (hbox)
               have GWE := ge_ hg HB.out
               have GEE := ge_ hg HB.out
               have NAE := nl_ hg KA
               have NEA := ng_ hg KA
               have NBE := nl_ hg KB
               have NEB := ng_ hg KB
               have NCE := nl_ hg KC
               have NEC := ng_ hg KC
               replace KA := bb_ KA hb
               replace KB := bb_ KB hb
               replace KC := bb_ KC hb
               replace HB := Aside0.mk (below_step HB.out hb)
               clear hb hbox hg
               refine hK.out _ _ ⟨bc_ KA.out 0 rfl, bc_ KA.out 1 rfl, bc_ KA.out 2 rfl, bc_ KA.out 3 rfl, bc_ KB.out 0 rfl, bc_ KB.out 1 rfl, bc_ KB.out 2 rfl, bc_ KB.out 3 rfl⟩ (fun hHeld => ?_)
               clear hK K
               refine norm_ (a' := ?_) ?_ ?_
               rotate_left
               ·show Act.put _ (some 8) _ = _
                refine ps ?_
                rfl
               exact norm_ pp (hJ1_2_7 (gE) _ ⟨hHeld, KA.out, KB.out, KC.out, KE.out, GWE.out, GEE.out, NAE.out, NEA.out, NBE.out, NEB.out, NCE.out, NEC.out, HB.out⟩)
            ·skip
             rintro ⟨gD, gE⟩ w16 ⟨hS_, h0_, h1_, h2_, h3_, h4_, h5_, h6_, h7_, h8_, h9_, h10_, h11_, h12_, h13_, h14_, h15_, h16_, h17_, h18_, h19_, h20_, h21_, h22_, h23_⟩
             have n0_ : Aside0 (w16.heap[gA]? = some (.cells #[.int .i64 a1_0, .int .i64 a1_1, .int .i64 a1_2, .int .i64 a1_3] 32 (0, 0))) := ⟨h0_⟩
             have n1_ : Aside0 (w16.heap[gB]? = some (.cells #[.int .i64 a2_0, .int .i64 a2_1, .int .i64 a2_2, .int .i64 a2_3] 32 (0, 0))) := ⟨h1_⟩
             have n2_ : Aside0 (w16.heap[gC]? = some (.cells #[.int .i64 0, .int .i64 0, .int .i64 0, .int .i64 0] 32 (0, 0))) := ⟨h2_⟩
             have n3_ : Aside0 (w16.heap[gD]? = some (.cells #[.int .i64 0, .int .i64 0, .int .i64 0] 56 (0, 0))) := ⟨h3_⟩
             have n4_ : Aside0 (w16.heap[gE]? = some (.cells #[.int .i64 0, .int .i64 0, .int .i64 0] 56 (0, 0))) := ⟨h4_⟩
             have n5_ : Aside0 (w.heap.size ≤ gD) := ⟨h5_⟩
             have n6_ : Aside0 (w.heap.size ≤ gD) := ⟨h6_⟩
             have n7_ : Aside0 (gA ≠ gD) := ⟨h7_⟩
             have n8_ : Aside0 (gD ≠ gA) := ⟨h8_⟩
             have n9_ : Aside0 (gB ≠ gD) := ⟨h9_⟩
             have n10_ : Aside0 (gD ≠ gB) := ⟨h10_⟩
             have n11_ : Aside0 (gC ≠ gD) := ⟨h11_⟩
             have n12_ : Aside0 (gD ≠ gC) := ⟨h12_⟩
             have n13_ : Aside0 (gE ≠ gD) := ⟨h13_⟩
             have n14_ : Aside0 (gD ≠ gE) := ⟨h14_⟩
             have n15_ : Aside0 (w.heap.size ≤ gE) := ⟨h15_⟩
             have n16_ : Aside0 (w.heap.size ≤ gE) := ⟨h16_⟩
             have n17_ : Aside0 (gA ≠ gE) := ⟨h17_⟩
             have n18_ : Aside0 (gE ≠ gA) := ⟨h18_⟩
             have n19_ : Aside0 (gB ≠ gE) := ⟨h19_⟩
             have n20_ : Aside0 (gE ≠ gB) := ⟨h20_⟩
             have n21_ : Aside0 (gC ≠ gE) := ⟨h21_⟩
             have n22_ : Aside0 (gE ≠ gC) := ⟨h22_⟩
             have n23_ : Aside0 (Below w.heap.size w w16) := ⟨h23_⟩
             clear KA
             clear KB
             clear KC
             clear HB
             clear h0_ h1_ h2_ h3_ h4_ h5_ h6_ h7_ h8_ h9_ h10_ h11_ h12_ h13_ h14_ h15_ h16_ h17_ h18_ h19_ h20_ h21_ h22_ h23_
             have KA := n0_
             have KB := n1_
             have KC := n2_
             have KD := n3_
             have KE := n4_
             have GWD := n5_
             have GED := n6_
             have NAD := n7_
             have NDA := n8_
             have NBD := n9_
             have NDB := n10_
             have NCD := n11_
             have NDC := n12_
             have NED := n13_
             have NDE := n14_
             have GWE := n15_
             have GEE := n16_
             have NAE := n17_
             have NEA := n18_
             have NBE := n19_
             have NEB := n20_
             have NCE := n21_
             have NEC := n22_
             have HB := n23_
             clear n0_ n1_ n2_ n3_ n4_ n5_ n6_ n7_ n8_ n9_ n10_ n11_ n12_ n13_ n14_ n15_ n16_ n17_ n18_ n19_ n20_ n21_ n22_ n23_
             have hHeld : w16.cell? ⟨gA, 0, none⟩ = some (.int .i64 a1_0) ∧ w16.cell? ⟨gA, 1, none⟩ = some (.int .i64 a1_1) ∧ w16.cell? ⟨gA, 2, none⟩ = some (.int .i64 a1_2) ∧ w16.cell? ⟨gA, 3, none⟩ = some (.int .i64 a1_3) ∧ w16.cell? ⟨gB, 0, none⟩ = some (.int .i64 a2_0) ∧ w16.cell? ⟨gB, 1, none⟩ = some (.int .i64 a2_1) ∧ w16.cell? ⟨gB, 2, none⟩ = some (.int .i64 a2_2) ∧ w16.cell? ⟨gB, 3, none⟩ = some (.int .i64 a2_3) := hS_
             refine norm_ (a' := ?_) ?_ ?_
             rotate_left
             ·simp only [putAll, Act.put, List.setIfInBounds_toArray, List.set_cons_zero, List.set_cons_succ]
              rfl
             refine one_ (i := 2) (N := some 14) #[true, true, true, true, false, false, true, true, false, false] rfl rfl (one_of HT_.out (by kernel_rfl)) (by decide) (fun K hK => ?_)
             refine goes_ Try.func49 (by kernel_rfl) rfl #[.agg #[.int .i64 t163, .int .i64 t164, .int .i64 t165, .int .i64 t166]] (by rfl) rfl rfl pm ?_
             with_reducible refine (blend_color.calls t163 t164 t165 t166 t167 t168 t169 _ A5.out).mono ?_
             rintro e w17 ⟨rfl, hb⟩
             refine ⟨_, rfl, ?_⟩
             replace KA := bb_ KA hb
             replace KB := bb_ KB hb
             replace KC := bb_ KC hb
             replace KD := bb_ KD hb
             replace KE := bb_ KE hb
             replace HB := Aside0.mk (below_step HB.out hb)
             try clear hb
             refine hK.out _ _ ⟨bc_ KA.out 0 rfl, bc_ KA.out 1 rfl, bc_ KA.out 2 rfl, bc_ KA.out 3 rfl, bc_ KB.out 0 rfl, bc_ KB.out 1 rfl, bc_ KB.out 2 rfl, bc_ KB.out 3 rfl⟩ (fun hHeld => ?_)
             clear hK K
             refine norm_ (a' := ?_) ?_ ?_
             rotate_left
             ·show Act.put _ (some 14) _ = _
              refine ps ?_
              rfl
             exact norm_ pp (hJ1_2_6_7 (gD, gE) _ ⟨hHeld, KA.out, KB.out, KC.out, KD.out, KE.out, GWD.out, GED.out, NAD.out, NDA.out, NBD.out, NDB.out, NCD.out, NDC.out, NED.out, NDE.out, GWE.out, GEE.out, NAE.out, NEA.out, NBE.out, NEB.out, NCE.out, NEC.out, HB.out⟩)
           ·skip
            rintro gE w16 ⟨hS_, h0_, h1_, h2_, h3_, h4_, h5_, h6_, h7_, h8_, h9_, h10_, h11_, h12_⟩
            have n0_ : Aside0 (w16.heap[gA]? = some (.cells #[.int .i64 a1_0, .int .i64 a1_1, .int .i64 a1_2, .int .i64 a1_3] 32 (0, 0))) := ⟨h0_⟩
            have n1_ : Aside0 (w16.heap[gB]? = some (.cells #[.int .i64 a2_0, .int .i64 a2_1, .int .i64 a2_2, .int .i64 a2_3] 32 (0, 0))) := ⟨h1_⟩
            have n2_ : Aside0 (w16.heap[gC]? = some (.cells #[.int .i64 0, .int .i64 0, .int .i64 0, .int .i64 0] 32 (0, 0))) := ⟨h2_⟩
            have n3_ : Aside0 (w16.heap[gE]? = some (.cells #[.int .i64 0, .int .i64 0, .int .i64 0] 56 (0, 0))) := ⟨h3_⟩
            have n4_ : Aside0 (w.heap.size ≤ gE) := ⟨h4_⟩
            have n5_ : Aside0 (w.heap.size ≤ gE) := ⟨h5_⟩
            have n6_ : Aside0 (gA ≠ gE) := ⟨h6_⟩
            have n7_ : Aside0 (gE ≠ gA) := ⟨h7_⟩
            have n8_ : Aside0 (gB ≠ gE) := ⟨h8_⟩
            have n9_ : Aside0 (gE ≠ gB) := ⟨h9_⟩
            have n10_ : Aside0 (gC ≠ gE) := ⟨h10_⟩
            have n11_ : Aside0 (gE ≠ gC) := ⟨h11_⟩
            have n12_ : Aside0 (Below w.heap.size w w16) := ⟨h12_⟩
            clear KA
            clear KB
            clear KC
            clear HB
            clear h0_ h1_ h2_ h3_ h4_ h5_ h6_ h7_ h8_ h9_ h10_ h11_ h12_
            have KA := n0_
            have KB := n1_
            have KC := n2_
            have KE := n3_
            have GWE := n4_
            have GEE := n5_
            have NAE := n6_
            have NEA := n7_
            have NBE := n8_
            have NEB := n9_
            have NCE := n10_
            have NEC := n11_
            have HB := n12_
            clear n0_ n1_ n2_ n3_ n4_ n5_ n6_ n7_ n8_ n9_ n10_ n11_ n12_
            have hHeld : w16.cell? ⟨gA, 0, none⟩ = some (.int .i64 a1_0) ∧ w16.cell? ⟨gA, 1, none⟩ = some (.int .i64 a1_1) ∧ w16.cell? ⟨gA, 2, none⟩ = some (.int .i64 a1_2) ∧ w16.cell? ⟨gA, 3, none⟩ = some (.int .i64 a1_3) ∧ w16.cell? ⟨gB, 0, none⟩ = some (.int .i64 a2_0) ∧ w16.cell? ⟨gB, 1, none⟩ = some (.int .i64 a2_1) ∧ w16.cell? ⟨gB, 2, none⟩ = some (.int .i64 a2_2) ∧ w16.cell? ⟨gB, 3, none⟩ = some (.int .i64 a2_3) := hS_
            refine norm_ (a' := ?_) ?_ ?_
            rotate_left
            ·simp only [putAll, Act.put, List.setIfInBounds_toArray, List.set_cons_zero, List.set_cons_succ]
             rfl
            refine two_ (i := 4) (j := 6) (Ni := some 16) (Nj := some 7) #[true, true, true, true, true, false, false, true, false, false] #[true, true, true, true, false, false, true, true, false, false] rfl rfl rfl rfl (two_of HT_.out (by kernel_rfl)) (by decide) (by decide) (fun K hK => ?_) (fun K hK => ?_)
            ·skip
             refine goes_ Try.func35 (by kernel_rfl) rfl #[.agg #[.int .i64 a2_0, .int .i64 a2_1, .int .i64 a2_2, .int .i64 a2_3]] (by rfl) rfl rfl pm ?_
             with_reducible refine (pixel_Limit.calls a2_0 a2_1 a2_2 a2_3 t170 t171 t172 t173 _ A6.out).mono ?_
             rintro e w17 ⟨rfl, hb⟩
             refine ⟨_, rfl, ?_⟩
             replace KA := bb_ KA hb
             replace KB := bb_ KB hb
             replace KC := bb_ KC hb
             replace KE := bb_ KE hb
             replace HB := Aside0.mk (below_step HB.out hb)
             try clear hb
             refine hK.out _ _ ⟨bc_ KA.out 0 rfl, bc_ KA.out 1 rfl, bc_ KA.out 2 rfl, bc_ KA.out 3 rfl, bc_ KB.out 0 rfl, bc_ KB.out 1 rfl, bc_ KB.out 2 rfl, bc_ KB.out 3 rfl⟩ (fun hHeld => ?_)
             clear hK K
             refine norm_ (a' := ?_) ?_ ?_
             rotate_left
             ·show Act.put _ (some 16) _ = _
              refine ps ?_
              rfl
             exact norm_ pp (hJ1_2_4_7 (gE) _ ⟨hHeld, KA.out, KB.out, KC.out, KE.out, GWE.out, GEE.out, NAE.out, NEA.out, NBE.out, NEB.out, NCE.out, NEC.out, HB.out⟩)
            ·skip
             refine box_step ?hg (N := 7) ?hd (cs := #[.int .i64 0, .int .i64 0, .int .i64 0]) (t := 56) ?hr ?_; (case hd => rfl); (case hg => rfl); (case hr => first | (go_simp; done) | (go_simp; rfl))
             intro gD hg w17 hbox hb
             have KD := Aside0.mk (hbox)
             have GWD := ge_ hg HB.out
             have GED := ge_ hg HB.out
             have NAD := nl_ hg KA
             have NDA := ng_ hg KA
             have NBD := nl_ hg KB
             have NDB := ng_ hg KB
             have NCD := nl_ hg KC
             have NDC := ng_ hg KC
             have NED := nl_ hg KE
             have NDE := ng_ hg KE
             replace KA := bb_ KA hb
             replace KB := bb_ KB hb
             replace KC := bb_ KC hb
             replace KE := bb_ KE hb
             replace HB := Aside0.mk (below_step HB.out hb)
             clear hb hbox hg
             refine hK.out _ _ ⟨bc_ KA.out 0 rfl, bc_ KA.out 1 rfl, bc_ KA.out 2 rfl, bc_ KA.out 3 rfl, bc_ KB.out 0 rfl, bc_ KB.out 1 rfl, bc_ KB.out 2 rfl, bc_ KB.out 3 rfl⟩ (fun hHeld => ?_)
             clear hK K
             refine norm_ (a' := ?_) ?_ ?_
             rotate_left
             ·show Act.put _ (some 7) _ = _
              refine ps ?_
              rfl
             exact norm_ pp (hJ1_2_6_7 (gD, gE) _ ⟨hHeld, KA.out, KB.out, KC.out, KD.out, KE.out, GWD.out, GED.out, NAD.out, NDA.out, NBD.out, NDB.out, NCD.out, NDC.out, NED.out, NDE.out, GWE.out, GEE.out, NAE.out, NEA.out, NBE.out, NEB.out, NCE.out, NEC.out, HB.out⟩)
          ·skip
           rintro gD w16 ⟨hS_, h0_, h1_, h2_, h3_, h4_, h5_, h6_, h7_, h8_, h9_, h10_, h11_, h12_⟩
           have n0_ : Aside0 (w16.heap[gA]? = some (.cells #[.int .i64 a1_0, .int .i64 a1_1, .int .i64 a1_2, .int .i64 a1_3] 32 (0, 0))) := ⟨h0_⟩
           have n1_ : Aside0 (w16.heap[gB]? = some (.cells #[.int .i64 a2_0, .int .i64 a2_1, .int .i64 a2_2, .int .i64 a2_3] 32 (0, 0))) := ⟨h1_⟩
           have n2_ : Aside0 (w16.heap[gC]? = some (.cells #[.int .i64 0, .int .i64 0, .int .i64 0, .int .i64 0] 32 (0, 0))) := ⟨h2_⟩
           have n3_ : Aside0 (w16.heap[gD]? = some (.cells #[.int .i64 0, .int .i64 0, .int .i64 0] 56 (0, 0))) := ⟨h3_⟩
           have n4_ : Aside0 (w.heap.size ≤ gD) := ⟨h4_⟩
           have n5_ : Aside0 (w.heap.size ≤ gD) := ⟨h5_⟩
           have n6_ : Aside0 (gA ≠ gD) := ⟨h6_⟩
           have n7_ : Aside0 (gD ≠ gA) := ⟨h7_⟩
           have n8_ : Aside0 (gB ≠ gD) := ⟨h8_⟩
           have n9_ : Aside0 (gD ≠ gB) := ⟨h9_⟩
           have n10_ : Aside0 (gC ≠ gD) := ⟨h10_⟩
           have n11_ : Aside0 (gD ≠ gC) := ⟨h11_⟩
           have n12_ : Aside0 (Below w.heap.size w w16) := ⟨h12_⟩
           clear KA
           clear KB
           clear KC
           clear HB
           clear h0_ h1_ h2_ h3_ h4_ h5_ h6_ h7_ h8_ h9_ h10_ h11_ h12_
           have KA := n0_
           have KB := n1_
           have KC := n2_
           have KD := n3_
           have GWD := n4_
           have GED := n5_
           have NAD := n6_
           have NDA := n7_
           have NBD := n8_
           have NDB := n9_
           have NCD := n10_
           have NDC := n11_
           have HB := n12_
           clear n0_ n1_ n2_ n3_ n4_ n5_ n6_ n7_ n8_ n9_ n10_ n11_ n12_
           have hHeld : w16.cell? ⟨gA, 0, none⟩ = some (.int .i64 a1_0) ∧ w16.cell? ⟨gA, 1, none⟩ = some (.int .i64 a1_1) ∧ w16.cell? ⟨gA, 2, none⟩ = some (.int .i64 a1_2) ∧ w16.cell? ⟨gA, 3, none⟩ = some (.int .i64 a1_3) ∧ w16.cell? ⟨gB, 0, none⟩ = some (.int .i64 a2_0) ∧ w16.cell? ⟨gB, 1, none⟩ = some (.int .i64 a2_1) ∧ w16.cell? ⟨gB, 2, none⟩ = some (.int .i64 a2_2) ∧ w16.cell? ⟨gB, 3, none⟩ = some (.int .i64 a2_3) := hS_
           refine norm_ (a' := ?_) ?_ ?_
           rotate_left
           ·simp only [putAll, Act.put, List.setIfInBounds_toArray, List.set_cons_zero, List.set_cons_succ]
            rfl
           refine two_ (i := 4) (j := 7) (Ni := some 16) (Nj := some 8) #[true, true, true, true, true, false, true, false, false, false] #[true, true, true, true, false, false, true, true, false, false] rfl rfl rfl rfl (two_of HT_.out (by kernel_rfl)) (by decide) (by decide) (fun K hK => ?_) (fun K hK => ?_)
           ·skip
            refine goes_ Try.func35 (by kernel_rfl) rfl #[.agg #[.int .i64 a2_0, .int .i64 a2_1, .int .i64 a2_2, .int .i64 a2_3]] (by rfl) rfl rfl pm ?_
            with_reducible refine (pixel_Limit.calls a2_0 a2_1 a2_2 a2_3 t170 t171 t172 t173 _ A6.out).mono ?_
            rintro e w17 ⟨rfl, hb⟩
            refine ⟨_, rfl, ?_⟩
            replace KA := bb_ KA hb
            replace KB := bb_ KB hb
            replace KC := bb_ KC hb
            replace KD := bb_ KD hb
            replace HB := Aside0.mk (below_step HB.out hb)
            try clear hb
            refine hK.out _ _ ⟨bc_ KA.out 0 rfl, bc_ KA.out 1 rfl, bc_ KA.out 2 rfl, bc_ KA.out 3 rfl, bc_ KB.out 0 rfl, bc_ KB.out 1 rfl, bc_ KB.out 2 rfl, bc_ KB.out 3 rfl⟩ (fun hHeld => ?_)
            clear hK K
            refine norm_ (a' := ?_) ?_ ?_
            rotate_left
            ·show Act.put _ (some 16) _ = _
             refine ps ?_
             rfl
            exact norm_ pp (hJ1_2_4_6 (gD) _ ⟨hHeld, KA.out, KB.out, KC.out, KD.out, GWD.out, GED.out, NAD.out, NDA.out, NBD.out, NDB.out, NCD.out, NDC.out, HB.out⟩)
           ·skip
            refine box_step ?hg (N := 8) ?hd (cs := #[.int .i64 0, .int .i64 0, .int .i64 0]) (t := 56) ?hr ?_; (case hd => rfl); (case hg => rfl); (case hr => first | (go_simp; done) | (go_simp; rfl))
            intro gE hg w17 hbox hb
            have KE := Aside0.mk (hbox)
            have GWE := ge_ hg HB.out
            have GEE := ge_ hg HB.out
            have NAE := nl_ hg KA
            have NEA := ng_ hg KA
            have NBE := nl_ hg KB
            have NEB := ng_ hg KB
            have NCE := nl_ hg KC
            have NEC := ng_ hg KC
            have NDE := nl_ hg KD
            have NED := ng_ hg KD
            replace KA := bb_ KA hb
            replace KB := bb_ KB hb
            replace KC := bb_ KC hb
            replace KD := bb_ KD hb
            replace HB := Aside0.mk (below_step HB.out hb)
            clear hb hbox hg
            refine hK.out _ _ ⟨bc_ KA.out 0 rfl, bc_ KA.out 1 rfl, bc_ KA.out 2 rfl, bc_ KA.out 3 rfl, bc_ KB.out 0 rfl, bc_ KB.out 1 rfl, bc_ KB.out 2 rfl, bc_ KB.out 3 rfl⟩ (fun hHeld => ?_)
            clear hK K
            refine norm_ (a' := ?_) ?_ ?_
            rotate_left
            ·show Act.put _ (some 8) _ = _
             refine ps ?_
             rfl
            exact norm_ pp (hJ1_2_6_7 (gD, gE) _ ⟨hHeld, KA.out, KB.out, KC.out, KD.out, KE.out, GWD.out, GED.out, NAD.out, NDA.out, NBD.out, NDB.out, NCD.out, NDC.out, NED.out, NDE.out, GWE.out, GEE.out, NAE.out, NEA.out, NBE.out, NEB.out, NCE.out, NEC.out, HB.out⟩)
         ·skip
          rintro _ w16 ⟨hS_, h0_, h1_, h2_, h3_⟩
          have n0_ : Aside0 (w16.heap[gA]? = some (.cells #[.int .i64 a1_0, .int .i64 a1_1, .int .i64 a1_2, .int .i64 a1_3] 32 (0, 0))) := ⟨h0_⟩
          have n1_ : Aside0 (w16.heap[gB]? = some (.cells #[.int .i64 a2_0, .int .i64 a2_1, .int .i64 a2_2, .int .i64 a2_3] 32 (0, 0))) := ⟨h1_⟩
          have n2_ : Aside0 (w16.heap[gC]? = some (.cells #[.int .i64 0, .int .i64 0, .int .i64 0, .int .i64 0] 32 (0, 0))) := ⟨h2_⟩
          have n3_ : Aside0 (Below w.heap.size w w16) := ⟨h3_⟩
          clear KA
          clear KB
          clear KC
          clear HB
          clear h0_ h1_ h2_ h3_
          have KA := n0_
          have KB := n1_
          have KC := n2_
          have HB := n3_
          clear n0_ n1_ n2_ n3_
          have hHeld : w16.cell? ⟨gA, 0, none⟩ = some (.int .i64 a1_0) ∧ w16.cell? ⟨gA, 1, none⟩ = some (.int .i64 a1_1) ∧ w16.cell? ⟨gA, 2, none⟩ = some (.int .i64 a1_2) ∧ w16.cell? ⟨gA, 3, none⟩ = some (.int .i64 a1_3) ∧ w16.cell? ⟨gB, 0, none⟩ = some (.int .i64 a2_0) ∧ w16.cell? ⟨gB, 1, none⟩ = some (.int .i64 a2_1) ∧ w16.cell? ⟨gB, 2, none⟩ = some (.int .i64 a2_2) ∧ w16.cell? ⟨gB, 3, none⟩ = some (.int .i64 a2_3) := hS_
          refine norm_ (a' := ?_) ?_ ?_
          rotate_left
          ·simp only [putAll, Act.put, List.setIfInBounds_toArray, List.set_cons_zero, List.set_cons_succ]
           rfl
          refine three_ (i := 5) (j := 6) (k := 7) (Ni := some 17) (Nj := some 7) (Nk := some 8) #[true, true, true, true, true, true, false, false, false, false] #[true, true, true, true, true, false, true, false, false, false] #[true, true, true, true, true, false, false, true, false, false] rfl rfl rfl rfl rfl rfl (three_of HT_.out (by kernel_rfl)) (by decide) (by decide) (by decide) (fun K hK => ?_) (fun K hK => ?_) (fun K hK => ?_)
          ·skip
           refine goes_ Try.func49 (by kernel_rfl) rfl #[.agg #[.int .i64 t170, .int .i64 t171, .int .i64 t172, .int .i64 t173]] (by rfl) rfl rfl pm ?_
           with_reducible refine (blend_color.calls t170 t171 t172 t173 t174 t175 t176 _ A7.out).mono ?_
           rintro e w17 ⟨rfl, hb⟩
           refine ⟨_, rfl, ?_⟩
           replace KA := bb_ KA hb
           replace KB := bb_ KB hb
           replace KC := bb_ KC hb
           replace HB := Aside0.mk (below_step HB.out hb)
           try clear hb
           refine hK.out _ _ ⟨bc_ KA.out 0 rfl, bc_ KA.out 1 rfl, bc_ KA.out 2 rfl, bc_ KA.out 3 rfl, bc_ KB.out 0 rfl, bc_ KB.out 1 rfl, bc_ KB.out 2 rfl, bc_ KB.out 3 rfl⟩ (fun hHeld => ?_)
           clear hK K
           refine norm_ (a' := ?_) ?_ ?_
           rotate_left
           ·show Act.put _ (some 17) _ = _
            refine ps ?_
            rfl
           exact norm_ pp (hJ1_2_4_5 () _ ⟨hHeld, KA.out, KB.out, KC.out, HB.out⟩)
          ·skip
           refine box_step ?hg (N := 7) ?hd (cs := #[.int .i64 0, .int .i64 0, .int .i64 0]) (t := 56) ?hr ?_; (case hd => rfl); (case hg => rfl); (case hr => first | (go_simp; done) | (go_simp; rfl))
           intro gD hg w17 hbox hb
           have KD := Aside0.mk (hbox)
           have GWD := ge_ hg HB.out
           have GED := ge_ hg HB.out
           have NAD := nl_ hg KA
           have NDA := ng_ hg KA
           have NBD := nl_ hg KB
           have NDB := ng_ hg KB
           have NCD := nl_ hg KC
           have NDC := ng_ hg KC
           replace KA := bb_ KA hb
           replace KB := bb_ KB hb
           replace KC := bb_ KC hb
           replace HB := Aside0.mk (below_step HB.out hb)
           clear hb hbox hg
           refine hK.out _ _ ⟨bc_ KA.out 0 rfl, bc_ KA.out 1 rfl, bc_ KA.out 2 rfl, bc_ KA.out 3 rfl, bc_ KB.out 0 rfl, bc_ KB.out 1 rfl, bc_ KB.out 2 rfl, bc_ KB.out 3 rfl⟩ (fun hHeld => ?_)
           clear hK K
           refine norm_ (a' := ?_) ?_ ?_
           rotate_left
           ·show Act.put _ (some 7) _ = _
            refine ps ?_
            rfl
           exact norm_ pp (hJ1_2_4_6 (gD) _ ⟨hHeld, KA.out, KB.out, KC.out, KD.out, GWD.out, GED.out, NAD.out, NDA.out, NBD.out, NDB.out, NCD.out, NDC.out, HB.out⟩)
          ·skip
           refine box_step ?hg (N := 8) ?hd (cs := #[.int .i64 0, .int .i64 0, .int .i64 0]) (t := 56) ?hr ?_; (case hd => rfl); (case hg => rfl); (case hr => first | (go_simp; done) | (go_simp; rfl))
           intro gE hg w17 hbox hb
           have KE := Aside0.mk (hbox)
           have GWE := ge_ hg HB.out
           have GEE := ge_ hg HB.out
           have NAE := nl_ hg KA
           have NEA := ng_ hg KA
           have NBE := nl_ hg KB
           have NEB := ng_ hg KB
           have NCE := nl_ hg KC
           have NEC := ng_ hg KC
           replace KA := bb_ KA hb
           replace KB := bb_ KB hb
           replace KC := bb_ KC hb
           replace HB := Aside0.mk (below_step HB.out hb)
           clear hb hbox hg
           refine hK.out _ _ ⟨bc_ KA.out 0 rfl, bc_ KA.out 1 rfl, bc_ KA.out 2 rfl, bc_ KA.out 3 rfl, bc_ KB.out 0 rfl, bc_ KB.out 1 rfl, bc_ KB.out 2 rfl, bc_ KB.out 3 rfl⟩ (fun hHeld => ?_)
           clear hK K
           refine norm_ (a' := ?_) ?_ ?_
           rotate_left
           ·show Act.put _ (some 8) _ = _
            refine ps ?_
            rfl
           exact norm_ pp (hJ1_2_4_7 (gE) _ ⟨hHeld, KA.out, KB.out, KC.out, KE.out, GWE.out, GEE.out, NAE.out, NEA.out, NBE.out, NEB.out, NCE.out, NEC.out, HB.out⟩)
        ·skip
         rintro ⟨gD, gE⟩ w17 ⟨hS_, h0_, h1_, h2_, h3_, h4_, h5_, h6_, h7_, h8_, h9_, h10_, h11_, h12_, h13_, h14_, h15_, h16_, h17_, h18_, h19_, h20_, h21_, h22_, h23_⟩
         have n0_ : Aside0 (w17.heap[gA]? = some (.cells #[.int .i64 a1_0, .int .i64 a1_1, .int .i64 a1_2, .int .i64 a1_3] 32 (0, 0))) := ⟨h0_⟩
         have n1_ : Aside0 (w17.heap[gB]? = some (.cells #[.int .i64 a2_0, .int .i64 a2_1, .int .i64 a2_2, .int .i64 a2_3] 32 (0, 0))) := ⟨h1_⟩
         have n2_ : Aside0 (w17.heap[gC]? = some (.cells #[.int .i64 0, .int .i64 0, .int .i64 0, .int .i64 0] 32 (0, 0))) := ⟨h2_⟩
         have n3_ : Aside0 (w17.heap[gD]? = some (.cells #[.int .i64 0, .int .i64 0, .int .i64 0] 56 (0, 0))) := ⟨h3_⟩
         have n4_ : Aside0 (w17.heap[gE]? = some (.cells #[.int .i64 0, .int .i64 0, .int .i64 0] 56 (0, 0))) := ⟨h4_⟩
         have n5_ : Aside0 (w.heap.size ≤ gD) := ⟨h5_⟩
         have n6_ : Aside0 (w.heap.size ≤ gD) := ⟨h6_⟩
         have n7_ : Aside0 (gA ≠ gD) := ⟨h7_⟩
         have n8_ : Aside0 (gD ≠ gA) := ⟨h8_⟩
         have n9_ : Aside0 (gB ≠ gD) := ⟨h9_⟩
         have n10_ : Aside0 (gD ≠ gB) := ⟨h10_⟩
         have n11_ : Aside0 (gC ≠ gD) := ⟨h11_⟩
         have n12_ : Aside0 (gD ≠ gC) := ⟨h12_⟩
         have n13_ : Aside0 (gE ≠ gD) := ⟨h13_⟩
         have n14_ : Aside0 (gD ≠ gE) := ⟨h14_⟩
         have n15_ : Aside0 (w.heap.size ≤ gE) := ⟨h15_⟩
         have n16_ : Aside0 (w.heap.size ≤ gE) := ⟨h16_⟩
         have n17_ : Aside0 (gA ≠ gE) := ⟨h17_⟩
         have n18_ : Aside0 (gE ≠ gA) := ⟨h18_⟩
         have n19_ : Aside0 (gB ≠ gE) := ⟨h19_⟩
         have n20_ : Aside0 (gE ≠ gB) := ⟨h20_⟩
         have n21_ : Aside0 (gC ≠ gE) := ⟨h21_⟩
         have n22_ : Aside0 (gE ≠ gC) := ⟨h22_⟩
         have n23_ : Aside0 (Below w.heap.size w w17) := ⟨h23_⟩
         clear KA
         clear KB
         clear KC
         clear HB
         clear h0_ h1_ h2_ h3_ h4_ h5_ h6_ h7_ h8_ h9_ h10_ h11_ h12_ h13_ h14_ h15_ h16_ h17_ h18_ h19_ h20_ h21_ h22_ h23_
         have KA := n0_
         have KB := n1_
         have KC := n2_
         have KD := n3_
         have KE := n4_
         have GWD := n5_
         have GED := n6_
         have NAD := n7_
         have NDA := n8_
         have NBD := n9_
         have NDB := n10_
         have NCD := n11_
         have NDC := n12_
         have NED := n13_
         have NDE := n14_
         have GWE := n15_
         have GEE := n16_
         have NAE := n17_
         have NEA := n18_
         have NBE := n19_
         have NEB := n20_
         have NCE := n21_
         have NEC := n22_
         have HB := n23_
         clear n0_ n1_ n2_ n3_ n4_ n5_ n6_ n7_ n8_ n9_ n10_ n11_ n12_ n13_ n14_ n15_ n16_ n17_ n18_ n19_ n20_ n21_ n22_ n23_
         have hHeld : w17.cell? ⟨gA, 0, none⟩ = some (.int .i64 a1_0) ∧ w17.cell? ⟨gA, 1, none⟩ = some (.int .i64 a1_1) ∧ w17.cell? ⟨gA, 2, none⟩ = some (.int .i64 a1_2) ∧ w17.cell? ⟨gA, 3, none⟩ = some (.int .i64 a1_3) ∧ w17.cell? ⟨gB, 0, none⟩ = some (.int .i64 a2_0) ∧ w17.cell? ⟨gB, 1, none⟩ = some (.int .i64 a2_1) ∧ w17.cell? ⟨gB, 2, none⟩ = some (.int .i64 a2_2) ∧ w17.cell? ⟨gB, 3, none⟩ = some (.int .i64 a2_3) := hS_
         refine norm_ (a' := ?_) ?_ ?_
         rotate_left
         ·simp only [putAll, Act.put, List.setIfInBounds_toArray, List.set_cons_zero, List.set_cons_succ]
          rfl
         refine one_ (i := 4) (N := some 16) #[true, true, true, true, true, false, true, true, false, false] rfl rfl (one_of HT_.out (by kernel_rfl)) (by decide) (fun K hK => ?_)
         refine goes_ Try.func35 (by kernel_rfl) rfl #[.agg #[.int .i64 a2_0, .int .i64 a2_1, .int .i64 a2_2, .int .i64 a2_3]] (by rfl) rfl rfl pm ?_
         with_reducible refine (pixel_Limit.calls a2_0 a2_1 a2_2 a2_3 t170 t171 t172 t173 _ A6.out).mono ?_
         rintro e w18 ⟨rfl, hb⟩
         refine ⟨_, rfl, ?_⟩
         replace KA := bb_ KA hb
         replace KB := bb_ KB hb
         replace KC := bb_ KC hb
         replace KD := bb_ KD hb
         replace KE := bb_ KE hb
         replace HB := Aside0.mk (below_step HB.out hb)
         try clear hb
         refine hK.out _ _ ⟨bc_ KA.out 0 rfl, bc_ KA.out 1 rfl, bc_ KA.out 2 rfl, bc_ KA.out 3 rfl, bc_ KB.out 0 rfl, bc_ KB.out 1 rfl, bc_ KB.out 2 rfl, bc_ KB.out 3 rfl⟩ (fun hHeld => ?_)
         clear hK K
         refine norm_ (a' := ?_) ?_ ?_
         rotate_left
         ·show Act.put _ (some 16) _ = _
          refine ps ?_
          rfl
         exact norm_ pp (hJ1_2_4_6_7 (gD, gE) _ ⟨hHeld, KA.out, KB.out, KC.out, KD.out, KE.out, GWD.out, GED.out, NAD.out, NDA.out, NBD.out, NDB.out, NCD.out, NDC.out, NED.out, NDE.out, GWE.out, GEE.out, NAE.out, NEA.out, NBE.out, NEB.out, NCE.out, NEC.out, HB.out⟩)
       ·skip
        rintro gE w17 ⟨hS_, h0_, h1_, h2_, h3_, h4_, h5_, h6_, h7_, h8_, h9_, h10_, h11_, h12_⟩
        have n0_ : Aside0 (w17.heap[gA]? = some (.cells #[.int .i64 a1_0, .int .i64 a1_1, .int .i64 a1_2, .int .i64 a1_3] 32 (0, 0))) := ⟨h0_⟩
        have n1_ : Aside0 (w17.heap[gB]? = some (.cells #[.int .i64 a2_0, .int .i64 a2_1, .int .i64 a2_2, .int .i64 a2_3] 32 (0, 0))) := ⟨h1_⟩
        have n2_ : Aside0 (w17.heap[gC]? = some (.cells #[.int .i64 0, .int .i64 0, .int .i64 0, .int .i64 0] 32 (0, 0))) := ⟨h2_⟩
        have n3_ : Aside0 (w17.heap[gE]? = some (.cells #[.int .i64 0, .int .i64 0, .int .i64 0] 56 (0, 0))) := ⟨h3_⟩
        have n4_ : Aside0 (w.heap.size ≤ gE) := ⟨h4_⟩
        have n5_ : Aside0 (w.heap.size ≤ gE) := ⟨h5_⟩
        have n6_ : Aside0 (gA ≠ gE) := ⟨h6_⟩
        have n7_ : Aside0 (gE ≠ gA) := ⟨h7_⟩
        have n8_ : Aside0 (gB ≠ gE) := ⟨h8_⟩
        have n9_ : Aside0 (gE ≠ gB) := ⟨h9_⟩
        have n10_ : Aside0 (gC ≠ gE) := ⟨h10_⟩
        have n11_ : Aside0 (gE ≠ gC) := ⟨h11_⟩
        have n12_ : Aside0 (Below w.heap.size w w17) := ⟨h12_⟩
        clear KA
        clear KB
        clear KC
        clear HB
        clear h0_ h1_ h2_ h3_ h4_ h5_ h6_ h7_ h8_ h9_ h10_ h11_ h12_
        have KA := n0_
        have KB := n1_
        have KC := n2_
        have KE := n3_
        have GWE := n4_
        have GEE := n5_
        have NAE := n6_
        have NEA := n7_
        have NBE := n8_
        have NEB := n9_
        have NCE := n10_
        have NEC := n11_
        have HB := n12_
        clear n0_ n1_ n2_ n3_ n4_ n5_ n6_ n7_ n8_ n9_ n10_ n11_ n12_
        have hHeld : w17.cell? ⟨gA, 0, none⟩ = some (.int .i64 a1_0) ∧ w17.cell? ⟨gA, 1, none⟩ = some (.int .i64 a1_1) ∧ w17.cell? ⟨gA, 2, none⟩ = some (.int .i64 a1_2) ∧ w17.cell? ⟨gA, 3, none⟩ = some (.int .i64 a1_3) ∧ w17.cell? ⟨gB, 0, none⟩ = some (.int .i64 a2_0) ∧ w17.cell? ⟨gB, 1, none⟩ = some (.int .i64 a2_1) ∧ w17.cell? ⟨gB, 2, none⟩ = some (.int .i64 a2_2) ∧ w17.cell? ⟨gB, 3, none⟩ = some (.int .i64 a2_3) := hS_
        refine norm_ (a' := ?_) ?_ ?_
        rotate_left
        ·simp only [putAll, Act.put, List.setIfInBounds_toArray, List.set_cons_zero, List.set_cons_succ]
         rfl
        refine two_ (i := 5) (j := 6) (Ni := some 17) (Nj := some 7) #[true, true, true, true, true, true, false, true, false, false] #[true, true, true, true, true, false, true, true, false, false] rfl rfl rfl rfl (two_of HT_.out (by kernel_rfl)) (by decide) (by decide) (fun K hK => ?_) (fun K hK => ?_)
        ·skip
         refine goes_ Try.func49 (by kernel_rfl) rfl #[.agg #[.int .i64 t170, .int .i64 t171, .int .i64 t172, .int .i64 t173]] (by rfl) rfl rfl pm ?_
         with_reducible refine (blend_color.calls t170 t171 t172 t173 t174 t175 t176 _ A7.out).mono ?_
         rintro e w18 ⟨rfl, hb⟩
         refine ⟨_, rfl, ?_⟩
         replace KA := bb_ KA hb
         replace KB := bb_ KB hb
         replace KC := bb_ KC hb
         replace KE := bb_ KE hb
         replace HB := Aside0.mk (below_step HB.out hb)
         try clear hb
         refine hK.out _ _ ⟨bc_ KA.out 0 rfl, bc_ KA.out 1 rfl, bc_ KA.out 2 rfl, bc_ KA.out 3 rfl, bc_ KB.out 0 rfl, bc_ KB.out 1 rfl, bc_ KB.out 2 rfl, bc_ KB.out 3 rfl⟩ (fun hHeld => ?_)
         clear hK K
         refine norm_ (a' := ?_) ?_ ?_
         rotate_left
         ·show Act.put _ (some 17) _ = _
          refine ps ?_
          rfl
         exact norm_ pp (hJ1_2_4_5_7 (gE) _ ⟨hHeld, KA.out, KB.out, KC.out, KE.out, GWE.out, GEE.out, NAE.out, NEA.out, NBE.out, NEB.out, NCE.out, NEC.out, HB.out⟩)
        ·skip
         refine box_step ?hg (N := 7) ?hd (cs := #[.int .i64 0, .int .i64 0, .int .i64 0]) (t := 56) ?hr ?_; (case hd => rfl); (case hg => rfl); (case hr => first | (go_simp; done) | (go_simp; rfl))
         intro gD hg w18 hbox hb
         have KD := Aside0.mk (hbox)
         have GWD := ge_ hg HB.out
         have GED := ge_ hg HB.out
         have NAD := nl_ hg KA
         have NDA := ng_ hg KA
         have NBD := nl_ hg KB
         have NDB := ng_ hg KB
         have NCD := nl_ hg KC
         have NDC := ng_ hg KC
         have NED := nl_ hg KE
         have NDE := ng_ hg KE
         replace KA := bb_ KA hb
         replace KB := bb_ KB hb
         replace KC := bb_ KC hb
         replace KE := bb_ KE hb
         replace HB := Aside0.mk (below_step HB.out hb)
         clear hb hbox hg
         refine hK.out _ _ ⟨bc_ KA.out 0 rfl, bc_ KA.out 1 rfl, bc_ KA.out 2 rfl, bc_ KA.out 3 rfl, bc_ KB.out 0 rfl, bc_ KB.out 1 rfl, bc_ KB.out 2 rfl, bc_ KB.out 3 rfl⟩ (fun hHeld => ?_)
         clear hK K
         refine norm_ (a' := ?_) ?_ ?_
         rotate_left
         ·show Act.put _ (some 7) _ = _
          refine ps ?_
          rfl
         exact norm_ pp (hJ1_2_4_6_7 (gD, gE) _ ⟨hHeld, KA.out, KB.out, KC.out, KD.out, KE.out, GWD.out, GED.out, NAD.out, NDA.out, NBD.out, NDB.out, NCD.out, NDC.out, NED.out, NDE.out, GWE.out, GEE.out, NAE.out, NEA.out, NBE.out, NEB.out, NCE.out, NEC.out, HB.out⟩)
      ·skip
       rintro gD w17 ⟨hS_, h0_, h1_, h2_, h3_, h4_, h5_, h6_, h7_, h8_, h9_, h10_, h11_, h12_⟩
       have n0_ : Aside0 (w17.heap[gA]? = some (.cells #[.int .i64 a1_0, .int .i64 a1_1, .int .i64 a1_2, .int .i64 a1_3] 32 (0, 0))) := ⟨h0_⟩
       have n1_ : Aside0 (w17.heap[gB]? = some (.cells #[.int .i64 a2_0, .int .i64 a2_1, .int .i64 a2_2, .int .i64 a2_3] 32 (0, 0))) := ⟨h1_⟩
       have n2_ : Aside0 (w17.heap[gC]? = some (.cells #[.int .i64 0, .int .i64 0, .int .i64 0, .int .i64 0] 32 (0, 0))) := ⟨h2_⟩
       have n3_ : Aside0 (w17.heap[gD]? = some (.cells #[.int .i64 0, .int .i64 0, .int .i64 0] 56 (0, 0))) := ⟨h3_⟩
       have n4_ : Aside0 (w.heap.size ≤ gD) := ⟨h4_⟩
       have n5_ : Aside0 (w.heap.size ≤ gD) := ⟨h5_⟩
       have n6_ : Aside0 (gA ≠ gD) := ⟨h6_⟩
       have n7_ : Aside0 (gD ≠ gA) := ⟨h7_⟩
       have n8_ : Aside0 (gB ≠ gD) := ⟨h8_⟩
       have n9_ : Aside0 (gD ≠ gB) := ⟨h9_⟩
       have n10_ : Aside0 (gC ≠ gD) := ⟨h10_⟩
       have n11_ : Aside0 (gD ≠ gC) := ⟨h11_⟩
       have n12_ : Aside0 (Below w.heap.size w w17) := ⟨h12_⟩
       clear KA
       clear KB
       clear KC
       clear HB
       clear h0_ h1_ h2_ h3_ h4_ h5_ h6_ h7_ h8_ h9_ h10_ h11_ h12_
       have KA := n0_
       have KB := n1_
       have KC := n2_
       have KD := n3_
       have GWD := n4_
       have GED := n5_
       have NAD := n6_
       have NDA := n7_
       have NBD := n8_
       have NDB := n9_
       have NCD := n10_
       have NDC := n11_
       have HB := n12_
       clear n0_ n1_ n2_ n3_ n4_ n5_ n6_ n7_ n8_ n9_ n10_ n11_ n12_
       have hHeld : w17.cell? ⟨gA, 0, none⟩ = some (.int .i64 a1_0) ∧ w17.cell? ⟨gA, 1, none⟩ = some (.int .i64 a1_1) ∧ w17.cell? ⟨gA, 2, none⟩ = some (.int .i64 a1_2) ∧ w17.cell? ⟨gA, 3, none⟩ = some (.int .i64 a1_3) ∧ w17.cell? ⟨gB, 0, none⟩ = some (.int .i64 a2_0) ∧ w17.cell? ⟨gB, 1, none⟩ = some (.int .i64 a2_1) ∧ w17.cell? ⟨gB, 2, none⟩ = some (.int .i64 a2_2) ∧ w17.cell? ⟨gB, 3, none⟩ = some (.int .i64 a2_3) := hS_
       refine norm_ (a' := ?_) ?_ ?_
       rotate_left
       ·simp only [putAll, Act.put, List.setIfInBounds_toArray, List.set_cons_zero, List.set_cons_succ]
        rfl
       refine two_ (i := 5) (j := 7) (Ni := some 17) (Nj := some 8) #[true, true, true, true, true, true, true, false, false, false] #[true, true, true, true, true, false, true, true, false, false] rfl rfl rfl rfl (two_of HT_.out (by kernel_rfl)) (by decide) (by decide) (fun K hK => ?_) (fun K hK => ?_)
       ·skip
        refine goes_ Try.func49 (by kernel_rfl) rfl #[.agg #[.int .i64 t170, .int .i64 t171, .int .i64 t172, .int .i64 t173]] (by rfl) rfl rfl pm ?_
        with_reducible refine (blend_color.calls t170 t171 t172 t173 t174 t175 t176 _ A7.out).mono ?_
        rintro e w18 ⟨rfl, hb⟩
        refine ⟨_, rfl, ?_⟩
        replace KA := bb_ KA hb
        replace KB := bb_ KB hb
        replace KC := bb_ KC hb
        replace KD := bb_ KD hb
        replace HB := Aside0.mk (below_step HB.out hb)
        try clear hb
        refine hK.out _ _ ⟨bc_ KA.out 0 rfl, bc_ KA.out 1 rfl, bc_ KA.out 2 rfl, bc_ KA.out 3 rfl, bc_ KB.out 0 rfl, bc_ KB.out 1 rfl, bc_ KB.out 2 rfl, bc_ KB.out 3 rfl⟩ (fun hHeld => ?_)
        clear hK K
        refine norm_ (a' := ?_) ?_ ?_
        rotate_left
        ·show Act.put _ (some 17) _ = _
         refine ps ?_
         rfl
        exact norm_ pp (hJ1_2_4_5_6 (gD) _ ⟨hHeld, KA.out, KB.out, KC.out, KD.out, GWD.out, GED.out, NAD.out, NDA.out, NBD.out, NDB.out, NCD.out, NDC.out, HB.out⟩)
       ·skip
        refine box_step ?hg (N := 8) ?hd (cs := #[.int .i64 0, .int .i64 0, .int .i64 0]) (t := 56) ?hr ?_; (case hd => rfl); (case hg => rfl); (case hr => first | (go_simp; done) | (go_simp; rfl))
        intro gE hg w18 hbox hb
        have KE := Aside0.mk (hbox)
        have GWE := ge_ hg HB.out
        have GEE := ge_ hg HB.out
        have NAE := nl_ hg KA
        have NEA := ng_ hg KA
        have NBE := nl_ hg KB
        have NEB := ng_ hg KB
        have NCE := nl_ hg KC
        have NEC := ng_ hg KC
        have NDE := nl_ hg KD
        have NED := ng_ hg KD
        replace KA := bb_ KA hb
        replace KB := bb_ KB hb
        replace KC := bb_ KC hb
        replace KD := bb_ KD hb
        replace HB := Aside0.mk (below_step HB.out hb)
        clear hb hbox hg
        refine hK.out _ _ ⟨bc_ KA.out 0 rfl, bc_ KA.out 1 rfl, bc_ KA.out 2 rfl, bc_ KA.out 3 rfl, bc_ KB.out 0 rfl, bc_ KB.out 1 rfl, bc_ KB.out 2 rfl, bc_ KB.out 3 rfl⟩ (fun hHeld => ?_)
        clear hK K
        refine norm_ (a' := ?_) ?_ ?_
        rotate_left
        ·show Act.put _ (some 8) _ = _
         refine ps ?_
         rfl
        exact norm_ pp (hJ1_2_4_6_7 (gD, gE) _ ⟨hHeld, KA.out, KB.out, KC.out, KD.out, KE.out, GWD.out, GED.out, NAD.out, NDA.out, NBD.out, NDB.out, NCD.out, NDC.out, NED.out, NDE.out, GWE.out, GEE.out, NAE.out, NEA.out, NBE.out, NEB.out, NCE.out, NEC.out, HB.out⟩)
     ·skip
      rintro _ w17 ⟨hS_, h0_, h1_, h2_, h3_⟩
      have n0_ : Aside0 (w17.heap[gA]? = some (.cells #[.int .i64 a1_0, .int .i64 a1_1, .int .i64 a1_2, .int .i64 a1_3] 32 (0, 0))) := ⟨h0_⟩
      have n1_ : Aside0 (w17.heap[gB]? = some (.cells #[.int .i64 a2_0, .int .i64 a2_1, .int .i64 a2_2, .int .i64 a2_3] 32 (0, 0))) := ⟨h1_⟩
      have n2_ : Aside0 (w17.heap[gC]? = some (.cells #[.int .i64 0, .int .i64 0, .int .i64 0, .int .i64 0] 32 (0, 0))) := ⟨h2_⟩
      have n3_ : Aside0 (Below w.heap.size w w17) := ⟨h3_⟩
      clear KA
      clear KB
      clear KC
      clear HB
      clear h0_ h1_ h2_ h3_
      have KA := n0_
      have KB := n1_
      have KC := n2_
      have HB := n3_
      clear n0_ n1_ n2_ n3_
      have hHeld : w17.cell? ⟨gA, 0, none⟩ = some (.int .i64 a1_0) ∧ w17.cell? ⟨gA, 1, none⟩ = some (.int .i64 a1_1) ∧ w17.cell? ⟨gA, 2, none⟩ = some (.int .i64 a1_2) ∧ w17.cell? ⟨gA, 3, none⟩ = some (.int .i64 a1_3) ∧ w17.cell? ⟨gB, 0, none⟩ = some (.int .i64 a2_0) ∧ w17.cell? ⟨gB, 1, none⟩ = some (.int .i64 a2_1) ∧ w17.cell? ⟨gB, 2, none⟩ = some (.int .i64 a2_2) ∧ w17.cell? ⟨gB, 3, none⟩ = some (.int .i64 a2_3) := hS_
      refine norm_ (a' := ?_) ?_ ?_
      rotate_left
      ·simp only [putAll, Act.put, List.setIfInBounds_toArray, List.set_cons_zero, List.set_cons_succ]
       rfl
      refine two_ (i := 6) (j := 7) (Ni := some 7) (Nj := some 8) #[true, true, true, true, true, true, true, false, false, false] #[true, true, true, true, true, true, false, true, false, false] rfl rfl rfl rfl (two_of HT_.out (by kernel_rfl)) (by decide) (by decide) (fun K hK => ?_) (fun K hK => ?_)
      ·skip
       refine box_step ?hg (N := 7) ?hd (cs := #[.int .i64 0, .int .i64 0, .int .i64 0]) (t := 56) ?hr ?_; (case hd => rfl); (case hg => rfl); (case hr => first | (go_simp; done) | (go_simp; rfl))
       intro gD hg w18 hbox hb
       have KD := Aside0.mk (hbox)
       have GWD := ge_ hg HB.out
       have GED := ge_ hg HB.out
       have NAD := nl_ hg KA
       have NDA := ng_ hg KA
       have NBD := nl_ hg KB
       have NDB := ng_ hg KB
       have NCD := nl_ hg KC
       have NDC := ng_ hg KC
       replace KA := bb_ KA hb
       replace KB := bb_ KB hb
       replace KC := bb_ KC hb
       replace HB := Aside0.mk (below_step HB.out hb)
       clear hb hbox hg
       refine hK.out _ _ ⟨bc_ KA.out 0 rfl, bc_ KA.out 1 rfl, bc_ KA.out 2 rfl, bc_ KA.out 3 rfl, bc_ KB.out 0 rfl, bc_ KB.out 1 rfl, bc_ KB.out 2 rfl, bc_ KB.out 3 rfl⟩ (fun hHeld => ?_)
       clear hK K
       refine norm_ (a' := ?_) ?_ ?_
       rotate_left
       ·show Act.put _ (some 7) _ = _
        refine ps ?_
        rfl
       exact norm_ pp (hJ1_2_4_5_6 (gD) _ ⟨hHeld, KA.out, KB.out, KC.out, KD.out, GWD.out, GED.out, NAD.out, NDA.out, NBD.out, NDB.out, NCD.out, NDC.out, HB.out⟩)
      ·skip
       refine box_step ?hg (N := 8) ?hd (cs := #[.int .i64 0, .int .i64 0, .int .i64 0]) (t := 56) ?hr ?_; (case hd => rfl); (case hg => rfl); (case hr => first | (go_simp; done) | (go_simp; rfl))
       intro gE hg w18 hbox hb
       have KE := Aside0.mk (hbox)
       have GWE := ge_ hg HB.out
       have GEE := ge_ hg HB.out
       have NAE := nl_ hg KA
       have NEA := ng_ hg KA
       have NBE := nl_ hg KB
       have NEB := ng_ hg KB
       have NCE := nl_ hg KC
       have NEC := ng_ hg KC
       replace KA := bb_ KA hb
       replace KB := bb_ KB hb
       replace KC := bb_ KC hb
       replace HB := Aside0.mk (below_step HB.out hb)
       clear hb hbox hg
       refine hK.out _ _ ⟨bc_ KA.out 0 rfl, bc_ KA.out 1 rfl, bc_ KA.out 2 rfl, bc_ KA.out 3 rfl, bc_ KB.out 0 rfl, bc_ KB.out 1 rfl, bc_ KB.out 2 rfl, bc_ KB.out 3 rfl⟩ (fun hHeld => ?_)
       clear hK K
       refine norm_ (a' := ?_) ?_ ?_
       rotate_left
       ·show Act.put _ (some 8) _ = _
        refine ps ?_
        rfl
       exact norm_ pp (hJ1_2_4_5_7 (gE) _ ⟨hHeld, KA.out, KB.out, KC.out, KE.out, GWE.out, GEE.out, NAE.out, NEA.out, NBE.out, NEB.out, NCE.out, NEC.out, HB.out⟩)
    ·skip
     rintro ⟨gD, gE⟩ w18 ⟨hS_, h0_, h1_, h2_, h3_, h4_, h5_, h6_, h7_, h8_, h9_, h10_, h11_, h12_, h13_, h14_, h15_, h16_, h17_, h18_, h19_, h20_, h21_, h22_, h23_⟩
     have n0_ : Aside0 (w18.heap[gA]? = some (.cells #[.int .i64 a1_0, .int .i64 a1_1, .int .i64 a1_2, .int .i64 a1_3] 32 (0, 0))) := ⟨h0_⟩
     have n1_ : Aside0 (w18.heap[gB]? = some (.cells #[.int .i64 a2_0, .int .i64 a2_1, .int .i64 a2_2, .int .i64 a2_3] 32 (0, 0))) := ⟨h1_⟩
     have n2_ : Aside0 (w18.heap[gC]? = some (.cells #[.int .i64 0, .int .i64 0, .int .i64 0, .int .i64 0] 32 (0, 0))) := ⟨h2_⟩
     have n3_ : Aside0 (w18.heap[gD]? = some (.cells #[.int .i64 0, .int .i64 0, .int .i64 0] 56 (0, 0))) := ⟨h3_⟩
     have n4_ : Aside0 (w18.heap[gE]? = some (.cells #[.int .i64 0, .int .i64 0, .int .i64 0] 56 (0, 0))) := ⟨h4_⟩
     have n5_ : Aside0 (w.heap.size ≤ gD) := ⟨h5_⟩
     have n6_ : Aside0 (w.heap.size ≤ gD) := ⟨h6_⟩
     have n7_ : Aside0 (gA ≠ gD) := ⟨h7_⟩
     have n8_ : Aside0 (gD ≠ gA) := ⟨h8_⟩
     have n9_ : Aside0 (gB ≠ gD) := ⟨h9_⟩
     have n10_ : Aside0 (gD ≠ gB) := ⟨h10_⟩
     have n11_ : Aside0 (gC ≠ gD) := ⟨h11_⟩
     have n12_ : Aside0 (gD ≠ gC) := ⟨h12_⟩
     have n13_ : Aside0 (gE ≠ gD) := ⟨h13_⟩
     have n14_ : Aside0 (gD ≠ gE) := ⟨h14_⟩
     have n15_ : Aside0 (w.heap.size ≤ gE) := ⟨h15_⟩
     have n16_ : Aside0 (w.heap.size ≤ gE) := ⟨h16_⟩
     have n17_ : Aside0 (gA ≠ gE) := ⟨h17_⟩
     have n18_ : Aside0 (gE ≠ gA) := ⟨h18_⟩
     have n19_ : Aside0 (gB ≠ gE) := ⟨h19_⟩
     have n20_ : Aside0 (gE ≠ gB) := ⟨h20_⟩
     have n21_ : Aside0 (gC ≠ gE) := ⟨h21_⟩
     have n22_ : Aside0 (gE ≠ gC) := ⟨h22_⟩
     have n23_ : Aside0 (Below w.heap.size w w18) := ⟨h23_⟩
     clear KA
     clear KB
     clear KC
     clear HB
     clear h0_ h1_ h2_ h3_ h4_ h5_ h6_ h7_ h8_ h9_ h10_ h11_ h12_ h13_ h14_ h15_ h16_ h17_ h18_ h19_ h20_ h21_ h22_ h23_
     have KA := n0_
     have KB := n1_
     have KC := n2_
     have KD := n3_
     have KE := n4_
     have GWD := n5_
     have GED := n6_
     have NAD := n7_
     have NDA := n8_
     have NBD := n9_
     have NDB := n10_
     have NCD := n11_
     have NDC := n12_
     have NED := n13_
     have NDE := n14_
     have GWE := n15_
     have GEE := n16_
     have NAE := n17_
     have NEA := n18_
     have NBE := n19_
     have NEB := n20_
     have NCE := n21_
     have NEC := n22_
     have HB := n23_
     clear n0_ n1_ n2_ n3_ n4_ n5_ n6_ n7_ n8_ n9_ n10_ n11_ n12_ n13_ n14_ n15_ n16_ n17_ n18_ n19_ n20_ n21_ n22_ n23_
     have hHeld : w18.cell? ⟨gA, 0, none⟩ = some (.int .i64 a1_0) ∧ w18.cell? ⟨gA, 1, none⟩ = some (.int .i64 a1_1) ∧ w18.cell? ⟨gA, 2, none⟩ = some (.int .i64 a1_2) ∧ w18.cell? ⟨gA, 3, none⟩ = some (.int .i64 a1_3) ∧ w18.cell? ⟨gB, 0, none⟩ = some (.int .i64 a2_0) ∧ w18.cell? ⟨gB, 1, none⟩ = some (.int .i64 a2_1) ∧ w18.cell? ⟨gB, 2, none⟩ = some (.int .i64 a2_2) ∧ w18.cell? ⟨gB, 3, none⟩ = some (.int .i64 a2_3) := hS_
     refine norm_ (a' := ?_) ?_ ?_
     rotate_left
     ·simp only [putAll, Act.put, List.setIfInBounds_toArray, List.set_cons_zero, List.set_cons_succ]
      rfl
     refine one_ (i := 5) (N := some 17) #[true, true, true, true, true, true, true, true, false, false] rfl rfl (one_of HT_.out (by kernel_rfl)) (by decide) (fun K hK => ?_)
     refine goes_ Try.func49 (by kernel_rfl) rfl #[.agg #[.int .i64 t170, .int .i64 t171, .int .i64 t172, .int .i64 t173]] (by rfl) rfl rfl pm ?_
     with_reducible refine (blend_color.calls t170 t171 t172 t173 t174 t175 t176 _ A7.out).mono ?_
     rintro e w19 ⟨rfl, hb⟩
     refine ⟨_, rfl, ?_⟩
     replace KA := bb_ KA hb
     replace KB := bb_ KB hb
     replace KC := bb_ KC hb
     replace KD := bb_ KD hb
     replace KE := bb_ KE hb
     replace HB := Aside0.mk (below_step HB.out hb)
     try clear hb
     refine hK.out _ _ ⟨bc_ KA.out 0 rfl, bc_ KA.out 1 rfl, bc_ KA.out 2 rfl, bc_ KA.out 3 rfl, bc_ KB.out 0 rfl, bc_ KB.out 1 rfl, bc_ KB.out 2 rfl, bc_ KB.out 3 rfl⟩ (fun hHeld => ?_)
     clear hK K
     refine norm_ (a' := ?_) ?_ ?_
     rotate_left
     ·show Act.put _ (some 17) _ = _
      refine ps ?_
      rfl
     exact norm_ pp (hJ1_2_4_5_6_7 (gD, gE) _ ⟨hHeld, KA.out, KB.out, KC.out, KD.out, KE.out, GWD.out, GED.out, NAD.out, NDA.out, NBD.out, NDB.out, NCD.out, NDC.out, NED.out, NDE.out, GWE.out, GEE.out, NAE.out, NEA.out, NBE.out, NEB.out, NCE.out, NEC.out, HB.out⟩)
   ·skip
    rintro gE w18 ⟨hS_, h0_, h1_, h2_, h3_, h4_, h5_, h6_, h7_, h8_, h9_, h10_, h11_, h12_⟩
    have n0_ : Aside0 (w18.heap[gA]? = some (.cells #[.int .i64 a1_0, .int .i64 a1_1, .int .i64 a1_2, .int .i64 a1_3] 32 (0, 0))) := ⟨h0_⟩
    have n1_ : Aside0 (w18.heap[gB]? = some (.cells #[.int .i64 a2_0, .int .i64 a2_1, .int .i64 a2_2, .int .i64 a2_3] 32 (0, 0))) := ⟨h1_⟩
    have n2_ : Aside0 (w18.heap[gC]? = some (.cells #[.int .i64 0, .int .i64 0, .int .i64 0, .int .i64 0] 32 (0, 0))) := ⟨h2_⟩
    have n3_ : Aside0 (w18.heap[gE]? = some (.cells #[.int .i64 0, .int .i64 0, .int .i64 0] 56 (0, 0))) := ⟨h3_⟩
    have n4_ : Aside0 (w.heap.size ≤ gE) := ⟨h4_⟩
    have n5_ : Aside0 (w.heap.size ≤ gE) := ⟨h5_⟩
    have n6_ : Aside0 (gA ≠ gE) := ⟨h6_⟩
    have n7_ : Aside0 (gE ≠ gA) := ⟨h7_⟩
    have n8_ : Aside0 (gB ≠ gE) := ⟨h8_⟩
    have n9_ : Aside0 (gE ≠ gB) := ⟨h9_⟩
    have n10_ : Aside0 (gC ≠ gE) := ⟨h10_⟩
    have n11_ : Aside0 (gE ≠ gC) := ⟨h11_⟩
    have n12_ : Aside0 (Below w.heap.size w w18) := ⟨h12_⟩
    clear KA
    clear KB
    clear KC
    clear HB
    clear h0_ h1_ h2_ h3_ h4_ h5_ h6_ h7_ h8_ h9_ h10_ h11_ h12_
    have KA := n0_
    have KB := n1_
    have KC := n2_
    have KE := n3_
    have GWE := n4_
    have GEE := n5_
    have NAE := n6_
    have NEA := n7_
    have NBE := n8_
    have NEB := n9_
    have NCE := n10_
    have NEC := n11_
    have HB := n12_
    clear n0_ n1_ n2_ n3_ n4_ n5_ n6_ n7_ n8_ n9_ n10_ n11_ n12_
    have hHeld : w18.cell? ⟨gA, 0, none⟩ = some (.int .i64 a1_0) ∧ w18.cell? ⟨gA, 1, none⟩ = some (.int .i64 a1_1) ∧ w18.cell? ⟨gA, 2, none⟩ = some (.int .i64 a1_2) ∧ w18.cell? ⟨gA, 3, none⟩ = some (.int .i64 a1_3) ∧ w18.cell? ⟨gB, 0, none⟩ = some (.int .i64 a2_0) ∧ w18.cell? ⟨gB, 1, none⟩ = some (.int .i64 a2_1) ∧ w18.cell? ⟨gB, 2, none⟩ = some (.int .i64 a2_2) ∧ w18.cell? ⟨gB, 3, none⟩ = some (.int .i64 a2_3) := hS_
    refine norm_ (a' := ?_) ?_ ?_
    rotate_left
    ·simp only [putAll, Act.put, List.setIfInBounds_toArray, List.set_cons_zero, List.set_cons_succ]
     rfl
    refine one_ (i := 6) (N := some 7) #[true, true, true, true, true, true, true, true, false, false] rfl rfl (one_of HT_.out (by kernel_rfl)) (by decide) (fun K hK => ?_)
    refine box_step ?hg (N := 7) ?hd (cs := #[.int .i64 0, .int .i64 0, .int .i64 0]) (t := 56) ?hr ?_; (case hd => rfl); (case hg => rfl); (case hr => first | (go_simp; done) | (go_simp; rfl))
    intro gD hg w19 hbox hb
    have KD := Aside0.mk (hbox)
    have GWD := ge_ hg HB.out
    have GED := ge_ hg HB.out
    have NAD := nl_ hg KA
    have NDA := ng_ hg KA
    have NBD := nl_ hg KB
    have NDB := ng_ hg KB
    have NCD := nl_ hg KC
    have NDC := ng_ hg KC
    have NED := nl_ hg KE
    have NDE := ng_ hg KE
    replace KA := bb_ KA hb
    replace KB := bb_ KB hb
    replace KC := bb_ KC hb
    replace KE := bb_ KE hb
    replace HB := Aside0.mk (below_step HB.out hb)
    clear hb hbox hg
    refine hK.out _ _ ⟨bc_ KA.out 0 rfl, bc_ KA.out 1 rfl, bc_ KA.out 2 rfl, bc_ KA.out 3 rfl, bc_ KB.out 0 rfl, bc_ KB.out 1 rfl, bc_ KB.out 2 rfl, bc_ KB.out 3 rfl⟩ (fun hHeld => ?_)
    clear hK K
    refine norm_ (a' := ?_) ?_ ?_
    rotate_left
    ·show Act.put _ (some 7) _ = _
     refine ps ?_
     rfl
    exact norm_ pp (hJ1_2_4_5_6_7 (gD, gE) _ ⟨hHeld, KA.out, KB.out, KC.out, KD.out, KE.out, GWD.out, GED.out, NAD.out, NDA.out, NBD.out, NDB.out, NCD.out, NDC.out, NED.out, NDE.out, GWE.out, GEE.out, NAE.out, NEA.out, NBE.out, NEB.out, NCE.out, NEC.out, HB.out⟩)
  ·skip
   rintro gD w18 ⟨hS_, h0_, h1_, h2_, h3_, h4_, h5_, h6_, h7_, h8_, h9_, h10_, h11_, h12_⟩
   have n0_ : Aside0 (w18.heap[gA]? = some (.cells #[.int .i64 a1_0, .int .i64 a1_1, .int .i64 a1_2, .int .i64 a1_3] 32 (0, 0))) := ⟨h0_⟩
   have n1_ : Aside0 (w18.heap[gB]? = some (.cells #[.int .i64 a2_0, .int .i64 a2_1, .int .i64 a2_2, .int .i64 a2_3] 32 (0, 0))) := ⟨h1_⟩
   have n2_ : Aside0 (w18.heap[gC]? = some (.cells #[.int .i64 0, .int .i64 0, .int .i64 0, .int .i64 0] 32 (0, 0))) := ⟨h2_⟩
   have n3_ : Aside0 (w18.heap[gD]? = some (.cells #[.int .i64 0, .int .i64 0, .int .i64 0] 56 (0, 0))) := ⟨h3_⟩
   have n4_ : Aside0 (w.heap.size ≤ gD) := ⟨h4_⟩
   have n5_ : Aside0 (w.heap.size ≤ gD) := ⟨h5_⟩
   have n6_ : Aside0 (gA ≠ gD) := ⟨h6_⟩
   have n7_ : Aside0 (gD ≠ gA) := ⟨h7_⟩
   have n8_ : Aside0 (gB ≠ gD) := ⟨h8_⟩
   have n9_ : Aside0 (gD ≠ gB) := ⟨h9_⟩
   have n10_ : Aside0 (gC ≠ gD) := ⟨h10_⟩
   have n11_ : Aside0 (gD ≠ gC) := ⟨h11_⟩
   have n12_ : Aside0 (Below w.heap.size w w18) := ⟨h12_⟩
   clear KA
   clear KB
   clear KC
   clear HB
   clear h0_ h1_ h2_ h3_ h4_ h5_ h6_ h7_ h8_ h9_ h10_ h11_ h12_
   have KA := n0_
   have KB := n1_
   have KC := n2_
   have KD := n3_
   have GWD := n4_
   have GED := n5_
   have NAD := n6_
   have NDA := n7_
   have NBD := n8_
   have NDB := n9_
   have NCD := n10_
   have NDC := n11_
   have HB := n12_
   clear n0_ n1_ n2_ n3_ n4_ n5_ n6_ n7_ n8_ n9_ n10_ n11_ n12_
   have hHeld : w18.cell? ⟨gA, 0, none⟩ = some (.int .i64 a1_0) ∧ w18.cell? ⟨gA, 1, none⟩ = some (.int .i64 a1_1) ∧ w18.cell? ⟨gA, 2, none⟩ = some (.int .i64 a1_2) ∧ w18.cell? ⟨gA, 3, none⟩ = some (.int .i64 a1_3) ∧ w18.cell? ⟨gB, 0, none⟩ = some (.int .i64 a2_0) ∧ w18.cell? ⟨gB, 1, none⟩ = some (.int .i64 a2_1) ∧ w18.cell? ⟨gB, 2, none⟩ = some (.int .i64 a2_2) ∧ w18.cell? ⟨gB, 3, none⟩ = some (.int .i64 a2_3) := hS_
   refine norm_ (a' := ?_) ?_ ?_
   rotate_left
   ·simp only [putAll, Act.put, List.setIfInBounds_toArray, List.set_cons_zero, List.set_cons_succ]
    rfl
   refine one_ (i := 7) (N := some 8) #[true, true, true, true, true, true, true, true, false, false] rfl rfl (one_of HT_.out (by kernel_rfl)) (by decide) (fun K hK => ?_)
   refine box_step ?hg (N := 8) ?hd (cs := #[.int .i64 0, .int .i64 0, .int .i64 0]) (t := 56) ?hr ?_; (case hd => rfl); (case hg => rfl); (case hr => first | (go_simp; done) | (go_simp; rfl))
   intro gE hg w19 hbox hb
   have KE := Aside0.mk (hbox)
   have GWE := ge_ hg HB.out
   have GEE := ge_ hg HB.out
   have NAE := nl_ hg KA
   have NEA := ng_ hg KA
   have NBE := nl_ hg KB
   have NEB := ng_ hg KB
   have NCE := nl_ hg KC
   have NEC := ng_ hg KC
   have NDE := nl_ hg KD
   have NED := ng_ hg KD
   replace KA := bb_ KA hb
   replace KB := bb_ KB hb
   replace KC := bb_ KC hb
   replace KD := bb_ KD hb
   replace HB := Aside0.mk (below_step HB.out hb)
   clear hb hbox hg
   refine hK.out _ _ ⟨bc_ KA.out 0 rfl, bc_ KA.out 1 rfl, bc_ KA.out 2 rfl, bc_ KA.out 3 rfl, bc_ KB.out 0 rfl, bc_ KB.out 1 rfl, bc_ KB.out 2 rfl, bc_ KB.out 3 rfl⟩ (fun hHeld => ?_)
   clear hK K
   refine norm_ (a' := ?_) ?_ ?_
   rotate_left
   ·show Act.put _ (some 8) _ = _
    refine ps ?_
    rfl
   exact norm_ pp (hJ1_2_4_5_6_7 (gD, gE) _ ⟨hHeld, KA.out, KB.out, KC.out, KD.out, KE.out, GWD.out, GED.out, NAD.out, NDA.out, NBD.out, NDB.out, NCD.out, NDC.out, NED.out, NDE.out, GWE.out, GEE.out, NAE.out, NEA.out, NBE.out, NEB.out, NCE.out, NEC.out, HB.out⟩)
 rintro ⟨gD, gE⟩ w19 ⟨hS_, h0_, h1_, h2_, h3_, h4_, h5_, h6_, h7_, h8_, h9_, h10_, h11_, h12_, h13_, h14_, h15_, h16_, h17_, h18_, h19_, h20_, h21_, h22_, h23_⟩
 have n0_ : Aside0 (w19.heap[gA]? = some (.cells #[.int .i64 a1_0, .int .i64 a1_1, .int .i64 a1_2, .int .i64 a1_3] 32 (0, 0))) := ⟨h0_⟩
 have n1_ : Aside0 (w19.heap[gB]? = some (.cells #[.int .i64 a2_0, .int .i64 a2_1, .int .i64 a2_2, .int .i64 a2_3] 32 (0, 0))) := ⟨h1_⟩
 have n2_ : Aside0 (w19.heap[gC]? = some (.cells #[.int .i64 0, .int .i64 0, .int .i64 0, .int .i64 0] 32 (0, 0))) := ⟨h2_⟩
 have n3_ : Aside0 (w19.heap[gD]? = some (.cells #[.int .i64 0, .int .i64 0, .int .i64 0] 56 (0, 0))) := ⟨h3_⟩
 have n4_ : Aside0 (w19.heap[gE]? = some (.cells #[.int .i64 0, .int .i64 0, .int .i64 0] 56 (0, 0))) := ⟨h4_⟩
 have n5_ : Aside0 (w.heap.size ≤ gD) := ⟨h5_⟩
 have n6_ : Aside0 (w.heap.size ≤ gD) := ⟨h6_⟩
 have n7_ : Aside0 (gA ≠ gD) := ⟨h7_⟩
 have n8_ : Aside0 (gD ≠ gA) := ⟨h8_⟩
 have n9_ : Aside0 (gB ≠ gD) := ⟨h9_⟩
 have n10_ : Aside0 (gD ≠ gB) := ⟨h10_⟩
 have n11_ : Aside0 (gC ≠ gD) := ⟨h11_⟩
 have n12_ : Aside0 (gD ≠ gC) := ⟨h12_⟩
 have n13_ : Aside0 (gE ≠ gD) := ⟨h13_⟩
 have n14_ : Aside0 (gD ≠ gE) := ⟨h14_⟩
 have n15_ : Aside0 (w.heap.size ≤ gE) := ⟨h15_⟩
 have n16_ : Aside0 (w.heap.size ≤ gE) := ⟨h16_⟩
 have n17_ : Aside0 (gA ≠ gE) := ⟨h17_⟩
 have n18_ : Aside0 (gE ≠ gA) := ⟨h18_⟩
 have n19_ : Aside0 (gB ≠ gE) := ⟨h19_⟩
 have n20_ : Aside0 (gE ≠ gB) := ⟨h20_⟩
 have n21_ : Aside0 (gC ≠ gE) := ⟨h21_⟩
 have n22_ : Aside0 (gE ≠ gC) := ⟨h22_⟩
 have n23_ : Aside0 (Below w.heap.size w w19) := ⟨h23_⟩
 clear KA
 clear KB
 clear KC
 clear HB
 clear h0_ h1_ h2_ h3_ h4_ h5_ h6_ h7_ h8_ h9_ h10_ h11_ h12_ h13_ h14_ h15_ h16_ h17_ h18_ h19_ h20_ h21_ h22_ h23_
 have KA := n0_
 have KB := n1_
 have KC := n2_
 have KD := n3_
 have KE := n4_
 have GWD := n5_
 have GED := n6_
 have NAD := n7_
 have NDA := n8_
 have NBD := n9_
 have NDB := n10_
 have NCD := n11_
 have NDC := n12_
 have NED := n13_
 have NDE := n14_
 have GWE := n15_
 have GEE := n16_
 have NAE := n17_
 have NEA := n18_
 have NBE := n19_
 have NEB := n20_
 have NCE := n21_
 have NEC := n22_
 have HB := n23_
 clear n0_ n1_ n2_ n3_ n4_ n5_ n6_ n7_ n8_ n9_ n10_ n11_ n12_ n13_ n14_ n15_ n16_ n17_ n18_ n19_ n20_ n21_ n22_ n23_
 have hHeld : w19.cell? ⟨gA, 0, none⟩ = some (.int .i64 a1_0) ∧ w19.cell? ⟨gA, 1, none⟩ = some (.int .i64 a1_1) ∧ w19.cell? ⟨gA, 2, none⟩ = some (.int .i64 a1_2) ∧ w19.cell? ⟨gA, 3, none⟩ = some (.int .i64 a1_3) ∧ w19.cell? ⟨gB, 0, none⟩ = some (.int .i64 a2_0) ∧ w19.cell? ⟨gB, 1, none⟩ = some (.int .i64 a2_1) ∧ w19.cell? ⟨gB, 2, none⟩ = some (.int .i64 a2_2) ∧ w19.cell? ⟨gB, 3, none⟩ = some (.int .i64 a2_3) := hS_
 refine norm_ (a' := ?_) ?_ ?_
 rotate_left
 ·simp only [putAll, Act.put, List.setIfInBounds_toArray, List.set_cons_zero, List.set_cons_succ]
  rfl
 refine one_ (i := 8) (N := none) #[true, true, true, true, true, true, true, true, true, false] rfl rfl (one_of HT_.out (by kernel_rfl)) (by decide) (fun K hK => ?_)
 have hs20 : w19.cell? ⟨gD, 0, none⟩ = some (.int .i64 0) := bc_ KD.out 0 rfl
 have hfs20 := blk_frozen KD.out 0
 have hns20_0 := NAD.out
 have hns20_1 := NBD.out
 have hns20_2 := NCD.out
 have hns20_4 := NED.out
 have hms20_0 := NDA.out
 have hms20_1 := NDB.out
 have hms20_2 := NDC.out
 have hms20_4 := NDE.out
 have hs21 : w19.cell? ⟨gD, 1, none⟩ = some (.int .i64 0) := bc_ KD.out 1 rfl
 have hfs21 := blk_frozen KD.out 1
 have hns21_0 := NAD.out
 have hns21_1 := NBD.out
 have hns21_2 := NCD.out
 have hns21_4 := NED.out
 have hms21_0 := NDA.out
 have hms21_1 := NDB.out
 have hms21_2 := NDC.out
 have hms21_4 := NDE.out
 have hs22 : w19.cell? ⟨gD, 2, none⟩ = some (.int .i64 0) := bc_ KD.out 2 rfl
 have hfs22 := blk_frozen KD.out 2
 have hns22_0 := NAD.out
 have hns22_1 := NBD.out
 have hns22_2 := NCD.out
 have hns22_4 := NED.out
 have hms22_0 := NDA.out
 have hms22_1 := NDB.out
 have hms22_2 := NDC.out
 have hms22_4 := NDE.out
 refine skip_ (w1 := ?_) (by rfl) rfl ?_ ?_
 rotate_left
 ·go_simp
  rfl
 refine hK.out _ _ ⟨((cell_far (p := ⟨gD, _, none⟩) NAD.out _).trans (((cell_far (p := ⟨gD, _, none⟩) NAD.out _).trans (((cell_far (p := ⟨gD, _, none⟩) NAD.out _).trans (hHeld.1)))))), ((cell_far (p := ⟨gD, _, none⟩) NAD.out _).trans (((cell_far (p := ⟨gD, _, none⟩) NAD.out _).trans (((cell_far (p := ⟨gD, _, none⟩) NAD.out _).trans (hHeld.2.1)))))), ((cell_far (p := ⟨gD, _, none⟩) NAD.out _).trans (((cell_far (p := ⟨gD, _, none⟩) NAD.out _).trans (((cell_far (p := ⟨gD, _, none⟩) NAD.out _).trans (hHeld.2.2.1)))))), ((cell_far (p := ⟨gD, _, none⟩) NAD.out _).trans (((cell_far (p := ⟨gD, _, none⟩) NAD.out _).trans (((cell_far (p := ⟨gD, _, none⟩) NAD.out _).trans (hHeld.2.2.2.1)))))), ((cell_far (p := ⟨gD, _, none⟩) NBD.out _).trans (((cell_far (p := ⟨gD, _, none⟩) NBD.out _).trans (((cell_far (p := ⟨gD, _, none⟩) NBD.out _).trans (hHeld.2.2.2.2.1)))))), ((cell_far (p := ⟨gD, _, none⟩) NBD.out _).trans (((cell_far (p := ⟨gD, _, none⟩) NBD.out _).trans (((cell_far (p := ⟨gD, _, none⟩) NBD.out _).trans (hHeld.2.2.2.2.2.1)))))), ((cell_far (p := ⟨gD, _, none⟩) NBD.out _).trans (((cell_far (p := ⟨gD, _, none⟩) NBD.out _).trans (((cell_far (p := ⟨gD, _, none⟩) NBD.out _).trans (hHeld.2.2.2.2.2.2.1)))))), ((cell_far (p := ⟨gD, _, none⟩) NBD.out _).trans (((cell_far (p := ⟨gD, _, none⟩) NBD.out _).trans (((cell_far (p := ⟨gD, _, none⟩) NBD.out _).trans (hHeld.2.2.2.2.2.2.2))))))⟩ (fun hHeld => ?_)
 clear hK K
 refine one_ (i := 9) (N := none) #[true, true, true, true, true, true, true, true, true, true] rfl rfl (one_of HT_.out (by kernel_rfl)) (by decide) (fun K hK => ?_)
 have hs23 : w19.cell? ⟨gE, 0, none⟩ = some (.int .i64 0) := bc_ KE.out 0 rfl
 have hfs23 := blk_frozen KE.out 0
 have hns23_0 := NAE.out
 have hns23_1 := NBE.out
 have hns23_2 := NCE.out
 have hns23_3 := NDE.out
 have hms23_0 := NEA.out
 have hms23_1 := NEB.out
 have hms23_2 := NEC.out
 have hms23_3 := NED.out
 have hs24 : w19.cell? ⟨gE, 1, none⟩ = some (.int .i64 0) := bc_ KE.out 1 rfl
 have hfs24 := blk_frozen KE.out 1
 have hns24_0 := NAE.out
 have hns24_1 := NBE.out
 have hns24_2 := NCE.out
 have hns24_3 := NDE.out
 have hms24_0 := NEA.out
 have hms24_1 := NEB.out
 have hms24_2 := NEC.out
 have hms24_3 := NED.out
 have hs25 : w19.cell? ⟨gE, 2, none⟩ = some (.int .i64 0) := bc_ KE.out 2 rfl
 have hfs25 := blk_frozen KE.out 2
 have hns25_0 := NAE.out
 have hns25_1 := NBE.out
 have hns25_2 := NCE.out
 have hns25_3 := NDE.out
 have hms25_0 := NEA.out
 have hms25_1 := NEB.out
 have hms25_2 := NEC.out
 have hms25_3 := NED.out
 refine skip_ (w1 := ?_) (by rfl) rfl ?_ ?_
 rotate_left
 ·go_simp
  rfl
 refine hK.out _ _ ⟨((cell_far (p := ⟨gE, _, none⟩) NAE.out _).trans (((cell_far (p := ⟨gE, _, none⟩) NAE.out _).trans (((cell_far (p := ⟨gE, _, none⟩) NAE.out _).trans (hHeld.1)))))), ((cell_far (p := ⟨gE, _, none⟩) NAE.out _).trans (((cell_far (p := ⟨gE, _, none⟩) NAE.out _).trans (((cell_far (p := ⟨gE, _, none⟩) NAE.out _).trans (hHeld.2.1)))))), ((cell_far (p := ⟨gE, _, none⟩) NAE.out _).trans (((cell_far (p := ⟨gE, _, none⟩) NAE.out _).trans (((cell_far (p := ⟨gE, _, none⟩) NAE.out _).trans (hHeld.2.2.1)))))), ((cell_far (p := ⟨gE, _, none⟩) NAE.out _).trans (((cell_far (p := ⟨gE, _, none⟩) NAE.out _).trans (((cell_far (p := ⟨gE, _, none⟩) NAE.out _).trans (hHeld.2.2.2.1)))))), ((cell_far (p := ⟨gE, _, none⟩) NBE.out _).trans (((cell_far (p := ⟨gE, _, none⟩) NBE.out _).trans (((cell_far (p := ⟨gE, _, none⟩) NBE.out _).trans (hHeld.2.2.2.2.1)))))), ((cell_far (p := ⟨gE, _, none⟩) NBE.out _).trans (((cell_far (p := ⟨gE, _, none⟩) NBE.out _).trans (((cell_far (p := ⟨gE, _, none⟩) NBE.out _).trans (hHeld.2.2.2.2.2.1)))))), ((cell_far (p := ⟨gE, _, none⟩) NBE.out _).trans (((cell_far (p := ⟨gE, _, none⟩) NBE.out _).trans (((cell_far (p := ⟨gE, _, none⟩) NBE.out _).trans (hHeld.2.2.2.2.2.2.1)))))), ((cell_far (p := ⟨gE, _, none⟩) NBE.out _).trans (((cell_far (p := ⟨gE, _, none⟩) NBE.out _).trans (((cell_far (p := ⟨gE, _, none⟩) NBE.out _).trans (hHeld.2.2.2.2.2.2.2))))))⟩ (fun hHeld => ?_)
 clear hK K
 refine done_ (done_of HT_.out (by kernel_rfl)) ?_
 go_upto_region 3 with (first | ((with_reducible refine gate_dst (N := 9) rfl ?_); refine box_event ?hg (N := 9) ?hd (cs := #[.int .i64 0, .int .i64 0, .int .i64 0]) (t := 56) ?hr ?_; (case hd => rfl); (case hg => rfl); (case hr => first | (go_simp; done) | (go_simp; rfl)); intro gF hg w26 hbox hb; have c0_ := co_ (g := gA) (o := .cells #[.int .i64 a1_0, .int .i64 a1_1, .int .i64 a1_2, .int .i64 a1_3] 32 (0, 0)) hb (by refine pf ?_ NAE.out; refine pf ?_ NAD.out; refine pl ?_; exact KA.out); have c1_ := co_ (g := gB) (o := .cells #[.int .i64 a2_0, .int .i64 a2_1, .int .i64 a2_2, .int .i64 a2_3] 32 (0, 0)) hb (by refine pf ?_ NBE.out; refine pf ?_ NBD.out; refine pl ?_; exact KB.out); have c2_ := co_ (g := gC) (o := .cells #[.int .i64 0, .int .i64 0, .int .i64 0, .int .i64 0] 32 (0, 0)) hb (by refine pf ?_ NCE.out; refine pf ?_ NCD.out; refine pl ?_; exact KC.out); have c3_ := co_ (g := gD) (o := .cells #[.int .i64 t167, .int .i64 t168, .int .i64 t169] 56 (0, 0)) hb (by refine pf ?_ NDE.out; refine pl ?_; refine blk_put (cs := #[.int .i64 t167, .int .i64 t168, .int .i64 0]) ?_ 2 _ rfl; refine pl ?_; refine blk_put (cs := #[.int .i64 t167, .int .i64 0, .int .i64 0]) ?_ 1 _ rfl; refine pl ?_; refine blk_put (cs := #[.int .i64 0, .int .i64 0, .int .i64 0]) ?_ 0 _ rfl; refine pl ?_; exact KD.out); have c4_ := co_ (g := gE) (o := .cells #[.int .i64 t174, .int .i64 t175, .int .i64 t176] 56 (0, 0)) hb (by refine pl ?_; refine blk_put (cs := #[.int .i64 t174, .int .i64 t175, .int .i64 0]) ?_ 2 _ rfl; refine pl ?_; refine blk_put (cs := #[.int .i64 t174, .int .i64 0, .int .i64 0]) ?_ 1 _ rfl; refine pl ?_; refine blk_put (cs := #[.int .i64 0, .int .i64 0, .int .i64 0]) ?_ 0 _ rfl; refine pf ?_ NED.out; refine pl ?_; exact KE.out); have KF := Aside0.mk hbox; have GWF := Aside0.mk ((by rw [hg]; exact (below_size (by repeat (first | (with_reducible first | exact HB.out | apply below_alloc | apply pw_below_drewN | apply below_drew1 | refine below_set ?_ GEA.out | refine below_set ?_ GEB.out | refine below_set ?_ GEC.out | refine below_set ?_ GED.out | refine below_set ?_ GEE.out) | exact HB.out))) : w.heap.size ≤ gF)); have GEF := Aside0.mk ((by rw [hg]; exact (below_size (by repeat (first | (with_reducible first | exact HB.out | apply below_alloc | apply pw_below_drewN | apply below_drew1 | refine below_set ?_ GEA.out | refine below_set ?_ GEB.out | refine below_set ?_ GEC.out | refine below_set ?_ GED.out | refine below_set ?_ GEE.out) | exact HB.out))) : w.heap.size ≤ gF)); have NAF := nl_ hg c0_; have NFA := ng_ hg c0_; have NBF := nl_ hg c1_; have NFB := ng_ hg c1_; have NCF := nl_ hg c2_; have NFC := ng_ hg c2_; have NDF := nl_ hg c3_; have NFD := ng_ hg c3_; have NEF := nl_ hg c4_; have NFE := ng_ hg c4_; replace KA := bb_ c0_ hb; replace KB := bb_ c1_ hb; replace KC := bb_ c2_ hb; replace KD := bb_ c3_ hb; replace KE := bb_ c4_ hb; replace HB := Aside0.mk (below_step (by repeat (first | (with_reducible first | exact HB.out | apply below_alloc | apply pw_below_drewN | apply below_drew1 | refine below_set ?_ GEA.out | refine below_set ?_ GEB.out | refine below_set ?_ GEC.out | refine below_set ?_ GED.out | refine below_set ?_ GEE.out) | exact HB.out)) hb); clear c0_ c1_ c2_ c3_ c4_; clear hb hbox hg))
 (try simp only [Act.put, List.setIfInBounds_toArray, List.set_cons_zero, List.set_cons_succ])
 go_cut [18] (fun v18 wc => ∃ (kq : Nat) (x18_7 : Int), v18 = .int .i64 x18_7 ∧ Aside0 (blend_Colors.j0 kq a0 x18_7 t167 t168 t169 t174 t175 t176 = some (r1, r2, r3, r4)) ∧ Aside0 (kq ≤ k) ∧ Aside0 (wc.heap[gA]? = some (.cells #[.int .i64 a1_0, .int .i64 a1_1, .int .i64 a1_2, .int .i64 a1_3] 32 (0, 0))) ∧ Aside0 (wc.heap[gB]? = some (.cells #[.int .i64 a2_0, .int .i64 a2_1, .int .i64 a2_2, .int .i64 a2_3] 32 (0, 0))) ∧ Aside0 (wc.heap[gC]? = some (.cells #[.int .i64 0, .int .i64 0, .int .i64 0, .int .i64 0] 32 (0, 0))) ∧ Aside0 (wc.heap[gD]? = some (.cells #[.int .i64 t167, .int .i64 t168, .int .i64 t169] 56 (0, 0))) ∧ Aside0 (wc.heap[gE]? = some (.cells #[.int .i64 t174, .int .i64 t175, .int .i64 t176] 56 (0, 0))) ∧ Aside0 (wc.heap[gF]? = some (.cells #[.int .i64 0, .int .i64 0, .int .i64 0] 56 (0, 0))) ∧ Aside0 (Below w.heap.size w wc))
 case first =>
  have H := HC8.out
  clear HC8
  have H' := Aside0.mk H
  clear H
  go_wp2
  go_meet
  case rel => exact ⟨_, (a0), (by first | rfl | (simp; done) | (simp [*]; done)), H', ⟨by first | omega | exact Nat.le_refl _⟩, ⟨pl KA.out⟩, ⟨pl KB.out⟩, ⟨pl KC.out⟩, ⟨pl KD.out⟩, ⟨pl KE.out⟩, ⟨pl KF.out⟩, ⟨by repeat (first | (with_reducible first | exact HB.out | apply below_alloc | apply pw_below_drewN | apply below_drew1 | refine below_set ?_ GEA.out | refine below_set ?_ GEB.out | refine below_set ?_ GEC.out | refine below_set ?_ GED.out | refine below_set ?_ GEE.out | refine below_set ?_ GEF.out) | exact HB.out)⟩⟩
 case rest =>
  clear HC8
  try clear p2
  try clear c4
  obtain ⟨kq, x18_7, rfl, HA, HJ7, KA, KB, KC, KD, KE, KF, HB⟩ := hcut
  cases kq with
  | zero => exact absurd HA.out (by simp [blend_Colors.j0])
  | succ kj7 =>
   have H := HA.out
   clear HA
   simp only [blend_Colors.j0] at H
   by_cases c27 : x18_7 = 14
   ·rw [if_pos c27] at H
    have c27b0 : (x18_7 == 14) = true := beq_iff_eq.mpr c27
    have c27b1 : (x18_7 != 14) = false := bne_eq_false_iff_eq.mpr c27
    clear c27
    replace H := Option.bind_eq_some_iff.mp H
    obtain ⟨t180, A280, H⟩ := H
    replace H : ((blend_setSat.f kj7 t174 t175 t176 t180).bind fun bt181 => ((blend_lum.f kj7 t167 t168 t169).bind fun t184 => ((blend_setLum.f kj7 bt181.1 bt181.2.1 bt181.2.2 t184).bind fun bt185 => (some (bt185.1, bt185.2.1, bt185.2.2, 65535))))) = some (r1, r2, r3, r4) := H
    have A28 := Aside0.mk A280
    clear A280
    replace H := Option.bind_eq_some_iff.mp H
    obtain ⟨⟨t181, t182, t183⟩, A290, H⟩ := H
    replace H : ((blend_lum.f kj7 t167 t168 t169).bind fun t184 => ((blend_setLum.f kj7 t181 t182 t183 t184).bind fun bt185 => (some (bt185.1, bt185.2.1, bt185.2.2, 65535)))) = some (r1, r2, r3, r4) := H
    have A29 := Aside0.mk A290
    clear A290
    replace H := Option.bind_eq_some_iff.mp H
    obtain ⟨t184, A300, H⟩ := H
    replace H : ((blend_setLum.f kj7 t181 t182 t183 t184).bind fun bt185 => (some (bt185.1, bt185.2.1, bt185.2.2, 65535))) = some (r1, r2, r3, r4) := H
    have A30 := Aside0.mk A300
    clear A300
    replace H := Option.bind_eq_some_iff.mp H
    obtain ⟨⟨t185, t186, t187⟩, A310, H⟩ := H
    replace H : (some (t185, t186, t187, 65535)) = some (r1, r2, r3, r4) := H
    have A31 := Aside0.mk A310
    clear A310
    simp only [Option.some.injEq, Prod.mk.injEq] at H
    obtain ⟨rfl, rfl, rfl, rfl⟩ := H
    try go_wp2
    replace KA := Aside0.mk (blk_drew KA.out)
    replace KB := Aside0.mk (blk_drew KB.out)
    replace KC := Aside0.mk (blk_drew KC.out)
    replace KD := Aside0.mk (blk_drew KD.out)
    replace KE := Aside0.mk (blk_drew KE.out)
    replace KF := Aside0.mk (blk_drew KF.out)
    replace HB := Aside0.mk (below_drew1 HB.out)
    refine start_ (n := 8) (S := fun w' => w'.cell? ⟨gE, 0, none⟩ = some (.int .i64 t174) ∧ w'.cell? ⟨gE, 1, none⟩ = some (.int .i64 t175) ∧ w'.cell? ⟨gE, 2, none⟩ = some (.int .i64 t176) ∧ w'.cell? ⟨gD, 0, none⟩ = some (.int .i64 t167) ∧ w'.cell? ⟨gD, 1, none⟩ = some (.int .i64 t168) ∧ w'.cell? ⟨gD, 2, none⟩ = some (.int .i64 t169)) (ds := []) #[false, false, false, false, false, false, false, false] (by kernel_rfl) rfl rfl ⟨bc_ KE.out 0 rfl, bc_ KE.out 1 rfl, bc_ KE.out 2 rfl, bc_ KD.out 0 rfl, bc_ KD.out 1 rfl, bc_ KD.out 2 rfl⟩ (fun hHeld => ?_); refine with_tabW blend_Colors.tab11 blend_Colors.bits11 (fun HT_ HW_ => ?_)
    generalize wc.drew = w32 at KA KB KC KD KE KF HB hHeld ⊢
    refine take_ (i := 0) (N := some 37) (v := ?_) (a' := ?_) #[true, false, false, false, false, false, false, false] rfl rfl (take_ofW HT_.out HW_.out (by kernel_rfl)) (fun _ _ _ h => h) (Or.inl ⟨by rfl, ?_⟩) hHeld ?_ ?_
    rotate_left
    ·rintro w' ⟨s0, s1, s2, s3, s4, s5⟩
     go_simp
     with_reducible rfl
    rotate_left
    ·refine ps ?_
     rfl
    refine take_ (i := 1) (N := some 38) (v := ?_) (a' := ?_) #[true, true, false, false, false, false, false, false] rfl rfl (take_ofW HT_.out HW_.out (by kernel_rfl)) (fun _ _ _ h => h) (Or.inl ⟨by rfl, ?_⟩) hHeld ?_ ?_
    rotate_left
    ·rintro w' ⟨s0, s1, s2, s3, s4, s5⟩
     go_simp
     with_reducible rfl
    rotate_left
    ·refine ps ?_
     rfl
    refine take_ (i := 4) (N := some 41) (v := ?_) (a' := ?_) #[true, true, false, false, true, false, false, false] rfl rfl (take_ofW HT_.out HW_.out (by kernel_rfl)) (fun _ _ _ h => h) (Or.inl ⟨by rfl, ?_⟩) hHeld ?_ ?_
    rotate_left
    ·rintro w' ⟨s0, s1, s2, s3, s4, s5⟩
     go_simp
     with_reducible rfl
    rotate_left
    ·refine ps ?_
     rfl
    refine one_ (i := 2) (N := some 39) #[true, true, true, false, true, false, false, false] rfl rfl (one_of HT_.out (by kernel_rfl)) (by decide) (fun K hK => ?_)
    refine goes_ Try.func52 (by kernel_rfl) rfl #[.agg #[.int .i64 t167, .int .i64 t168, .int .i64 t169]] (by rfl) rfl rfl pm ?_
    with_reducible refine (blend_sat.calls t167 t168 t169 t180 _ A28.out).mono ?_
    rintro e w33 ⟨rfl, hb⟩
    refine ⟨_, rfl, ?_⟩
    replace KA := bb_ KA hb
    replace KB := bb_ KB hb
    replace KC := bb_ KC hb
    replace KD := bb_ KD hb
    replace KE := bb_ KE hb
    replace KF := bb_ KF hb
    replace HB := Aside0.mk (below_step HB.out hb)
    try clear hb
    refine hK.out _ _ ⟨bc_ KE.out 0 rfl, bc_ KE.out 1 rfl, bc_ KE.out 2 rfl, bc_ KD.out 0 rfl, bc_ KD.out 1 rfl, bc_ KD.out 2 rfl⟩ (fun hHeld => ?_)
    clear hK K
    refine norm_ (a' := ?_) ?_ ?_
    rotate_left
    ·show Act.put _ (some 39) _ = _
     refine ps ?_
     rfl
    refine one_ (i := 3) (N := some 40) #[true, true, true, true, true, false, false, false] rfl rfl (one_of HT_.out (by kernel_rfl)) (by decide) (fun K hK => ?_)
    refine goes_ Try.func51 (by kernel_rfl) rfl #[.agg #[.int .i64 t174, .int .i64 t175, .int .i64 t176], .int .i64 t180] (by rfl) rfl rfl pm ?_
    with_reducible refine (blend_setSat.calls kj7 t174 t175 t176 t180 t181 t182 t183 _ A29.out).mono ?_
    rintro e w34 ⟨rfl, hb⟩
    refine ⟨_, rfl, ?_⟩
    replace KA := bb_ KA hb
    replace KB := bb_ KB hb
    replace KC := bb_ KC hb
    replace KD := bb_ KD hb
    replace KE := bb_ KE hb
    replace KF := bb_ KF hb
    replace HB := Aside0.mk (below_step HB.out hb)
    try clear hb
    refine hK.out _ _ ⟨bc_ KE.out 0 rfl, bc_ KE.out 1 rfl, bc_ KE.out 2 rfl, bc_ KD.out 0 rfl, bc_ KD.out 1 rfl, bc_ KD.out 2 rfl⟩ (fun hHeld => ?_)
    clear hK K
    refine norm_ (a' := ?_) ?_ ?_
    rotate_left
    ·show Act.put _ (some 40) _ = _
     refine ps ?_
     rfl
    refine one_ (i := 5) (N := some 42) #[true, true, true, true, true, true, false, false] rfl rfl (one_of HT_.out (by kernel_rfl)) (by decide) (fun K hK => ?_)
    refine goes_ Try.func53 (by kernel_rfl) rfl #[.agg #[.int .i64 t167, .int .i64 t168, .int .i64 t169]] (by rfl) rfl rfl pm ?_
    with_reducible refine (blend_lum.calls kj7 t167 t168 t169 t184 _ A30.out).mono ?_
    rintro e w35 ⟨rfl, hb⟩
    refine ⟨_, rfl, ?_⟩
    replace KA := bb_ KA hb
    replace KB := bb_ KB hb
    replace KC := bb_ KC hb
    replace KD := bb_ KD hb
    replace KE := bb_ KE hb
    replace KF := bb_ KF hb
    replace HB := Aside0.mk (below_step HB.out hb)
    try clear hb
    refine hK.out _ _ ⟨bc_ KE.out 0 rfl, bc_ KE.out 1 rfl, bc_ KE.out 2 rfl, bc_ KD.out 0 rfl, bc_ KD.out 1 rfl, bc_ KD.out 2 rfl⟩ (fun hHeld => ?_)
    clear hK K
    refine norm_ (a' := ?_) ?_ ?_
    rotate_left
    ·show Act.put _ (some 42) _ = _
     refine ps ?_
     rfl
    refine one_ (i := 6) (N := some 43) #[true, true, true, true, true, true, true, false] rfl rfl (one_of HT_.out (by kernel_rfl)) (by decide) (fun K hK => ?_)
    refine goes_ Try.func50 (by kernel_rfl) rfl #[.agg #[.int .i64 t181, .int .i64 t182, .int .i64 t183], .int .i64 t184] (by rfl) rfl rfl pm ?_
    with_reducible refine (blend_setLum.calls kj7 t181 t182 t183 t184 t185 t186 t187 _ A31.out).mono ?_
    rintro e w36 ⟨rfl, hb⟩
    refine ⟨_, rfl, ?_⟩
    replace KA := bb_ KA hb
    replace KB := bb_ KB hb
    replace KC := bb_ KC hb
    replace KD := bb_ KD hb
    replace KE := bb_ KE hb
    replace KF := bb_ KF hb
    replace HB := Aside0.mk (below_step HB.out hb)
    try clear hb
    refine hK.out _ _ ⟨bc_ KE.out 0 rfl, bc_ KE.out 1 rfl, bc_ KE.out 2 rfl, bc_ KD.out 0 rfl, bc_ KD.out 1 rfl, bc_ KD.out 2 rfl⟩ (fun hHeld => ?_)
    clear hK K
    refine norm_ (a' := ?_) ?_ ?_
    rotate_left
    ·show Act.put _ (some 43) _ = _
     refine ps ?_
     rfl
    refine one_ (i := 7) (N := none) #[true, true, true, true, true, true, true, true] rfl rfl (one_of HT_.out (by kernel_rfl)) (by decide) (fun K hK => ?_)
    have hs37 : w36.cell? ⟨gF, 0, none⟩ = some (.int .i64 0) := bc_ KF.out 0 rfl
    have hfs37 := blk_frozen KF.out 0
    have hns37_0 := NAF.out
    have hns37_1 := NBF.out
    have hns37_2 := NCF.out
    have hns37_3 := NDF.out
    have hns37_4 := NEF.out
    have hms37_0 := NFA.out
    have hms37_1 := NFB.out
    have hms37_2 := NFC.out
    have hms37_3 := NFD.out
    have hms37_4 := NFE.out
    have hs38 : w36.cell? ⟨gF, 1, none⟩ = some (.int .i64 0) := bc_ KF.out 1 rfl
    have hfs38 := blk_frozen KF.out 1
    have hns38_0 := NAF.out
    have hns38_1 := NBF.out
    have hns38_2 := NCF.out
    have hns38_3 := NDF.out
    have hns38_4 := NEF.out
    have hms38_0 := NFA.out
    have hms38_1 := NFB.out
    have hms38_2 := NFC.out
    have hms38_3 := NFD.out
    have hms38_4 := NFE.out
    have hs39 : w36.cell? ⟨gF, 2, none⟩ = some (.int .i64 0) := bc_ KF.out 2 rfl
    have hfs39 := blk_frozen KF.out 2
    have hns39_0 := NAF.out
    have hns39_1 := NBF.out
    have hns39_2 := NCF.out
    have hns39_3 := NDF.out
    have hns39_4 := NEF.out
    have hms39_0 := NFA.out
    have hms39_1 := NFB.out
    have hms39_2 := NFC.out
    have hms39_3 := NFD.out
    have hms39_4 := NFE.out
    refine skip_ (w1 := ?_) (by rfl) rfl ?_ ?_
    rotate_left
    ·go_simp
     rfl
    refine hK.out _ _ ⟨((cell_far (p := ⟨gF, _, none⟩) NEF.out _).trans (((cell_far (p := ⟨gF, _, none⟩) NEF.out _).trans (((cell_far (p := ⟨gF, _, none⟩) NEF.out _).trans (hHeld.1)))))), ((cell_far (p := ⟨gF, _, none⟩) NEF.out _).trans (((cell_far (p := ⟨gF, _, none⟩) NEF.out _).trans (((cell_far (p := ⟨gF, _, none⟩) NEF.out _).trans (hHeld.2.1)))))), ((cell_far (p := ⟨gF, _, none⟩) NEF.out _).trans (((cell_far (p := ⟨gF, _, none⟩) NEF.out _).trans (((cell_far (p := ⟨gF, _, none⟩) NEF.out _).trans (hHeld.2.2.1)))))), ((cell_far (p := ⟨gF, _, none⟩) NDF.out _).trans (((cell_far (p := ⟨gF, _, none⟩) NDF.out _).trans (((cell_far (p := ⟨gF, _, none⟩) NDF.out _).trans (hHeld.2.2.2.1)))))), ((cell_far (p := ⟨gF, _, none⟩) NDF.out _).trans (((cell_far (p := ⟨gF, _, none⟩) NDF.out _).trans (((cell_far (p := ⟨gF, _, none⟩) NDF.out _).trans (hHeld.2.2.2.2.1)))))), ((cell_far (p := ⟨gF, _, none⟩) NDF.out _).trans (((cell_far (p := ⟨gF, _, none⟩) NDF.out _).trans (((cell_far (p := ⟨gF, _, none⟩) NDF.out _).trans (hHeld.2.2.2.2.2))))))⟩ (fun hHeld => ?_)
    clear hK K
    refine done_ (done_of HT_.out (by kernel_rfl)) ?_
    have hnb40 := NFA.out
    have hnc40 := NAF.out
    have hnb41 := NFB.out
    have hnc41 := NBF.out
    have hnb42 := NFC.out
    have hnc42 := NCF.out
    have hnb43 := NFD.out
    have hnc43 := NDF.out
    have hnb44 := NFE.out
    have hnc44 := NEF.out
    have hcz45_0 : w36.cell? ⟨gF, 0, none⟩ = some (.int .i64 0) := bc_ KF.out 0 rfl
    have hcz45_1 : w36.cell? ⟨gF, 1, none⟩ = some (.int .i64 0) := bc_ KF.out 1 rfl
    have hcz45_2 : w36.cell? ⟨gF, 2, none⟩ = some (.int .i64 0) := bc_ KF.out 2 rfl
    have hfz45_0 := blk_frozen KF.out 0
    have hfz45_1 := blk_frozen KF.out 1
    have hfz45_2 := blk_frozen KF.out 2
    have hnb46 := NCA.out
    have hnc46 := NAC.out
    have hnb47 := NCB.out
    have hnc47 := NBC.out
    have hnb48 := NCD.out
    have hnc48 := NDC.out
    have hnb49 := NCE.out
    have hnc49 := NEC.out
    have hcz50_0 : w36.cell? ⟨gC, 0, none⟩ = some (.int .i64 0) := bc_ KC.out 0 rfl
    have hcz50_1 : w36.cell? ⟨gC, 1, none⟩ = some (.int .i64 0) := bc_ KC.out 1 rfl
    have hcz50_2 : w36.cell? ⟨gC, 2, none⟩ = some (.int .i64 0) := bc_ KC.out 2 rfl
    have hcz50_3 : w36.cell? ⟨gC, 3, none⟩ = some (.int .i64 0) := bc_ KC.out 3 rfl
    have hfz50_0 := blk_frozen KC.out 0
    have hfz50_1 := blk_frozen KC.out 1
    have hfz50_2 := blk_frozen KC.out 2
    have hfz50_3 := blk_frozen KC.out 3
    try go_wp2
    refine bodyPost_ret (results_cell_row rfl _ _ gC 32 #[.int .i64 t185, .int .i64 t186, .int .i64 t187, .int .i64 65535] (0, 0) _ rfl (by refine pl ?_; refine blk_put (cs := #[.int .i64 t185, .int .i64 t186, .int .i64 t187, .int .i64 0]) ?_ 3 _ rfl; refine pl ?_; refine blk_put (cs := #[.int .i64 t185, .int .i64 t186, .int .i64 0, .int .i64 0]) ?_ 2 _ rfl; refine pl ?_; refine blk_put (cs := #[.int .i64 t185, .int .i64 0, .int .i64 0, .int .i64 0]) ?_ 1 _ rfl; refine pl ?_; refine blk_put (cs := #[.int .i64 0, .int .i64 0, .int .i64 0, .int .i64 0]) ?_ 0 _ rfl; refine pl ?_; refine blk_far ?_ NCF.out _; refine pl ?_; refine blk_far ?_ NCF.out _; refine pl ?_; refine blk_far ?_ NCF.out _; refine pl ?_; exact KC.out) Try.underlying32 rfl (by kernel_rfl)) rfl ?_
    exact ⟨by first | rfl | (simp [errW_none, errW_some] <;> rfl) | (simp [*, errW_none, errW_some] <;> rfl), by repeat (first | (with_reducible first | exact HB.out | apply below_alloc | apply pw_below_drewN | apply below_drew1 | refine below_set ?_ GEA.out | refine below_set ?_ GEB.out | refine below_set ?_ GEC.out | refine below_set ?_ GED.out | refine below_set ?_ GEE.out | refine below_set ?_ GEF.out) | exact HB.out)⟩
   ·rw [if_neg c27] at H
    have c27b0 : (x18_7 == 14) = false := beq_eq_false_iff_ne.mpr c27
    have c27b1 : (x18_7 != 14) = true := bne_iff_ne.mpr c27
    by_cases c51 : x18_7 = 15
    ·rw [if_pos c51] at H
     have c51b0 : (x18_7 == 15) = true := beq_iff_eq.mpr c51
     have c51b1 : (x18_7 != 15) = false := bne_eq_false_iff_eq.mpr c51
     clear c51
     replace H := Option.bind_eq_some_iff.mp H
     obtain ⟨t188, A520, H⟩ := H
     replace H : ((blend_setSat.f kj7 t167 t168 t169 t188).bind fun bt189 => ((blend_lum.f kj7 t167 t168 t169).bind fun t192 => ((blend_setLum.f kj7 bt189.1 bt189.2.1 bt189.2.2 t192).bind fun bt193 => (some (bt193.1, bt193.2.1, bt193.2.2, 65535))))) = some (r1, r2, r3, r4) := H
     have A52 := Aside0.mk A520
     clear A520
     replace H := Option.bind_eq_some_iff.mp H
     obtain ⟨⟨t189, t190, t191⟩, A530, H⟩ := H
     replace H : ((blend_lum.f kj7 t167 t168 t169).bind fun t192 => ((blend_setLum.f kj7 t189 t190 t191 t192).bind fun bt193 => (some (bt193.1, bt193.2.1, bt193.2.2, 65535)))) = some (r1, r2, r3, r4) := H
     have A53 := Aside0.mk A530
     clear A530
     replace H := Option.bind_eq_some_iff.mp H
     obtain ⟨t192, A540, H⟩ := H
     replace H : ((blend_setLum.f kj7 t189 t190 t191 t192).bind fun bt193 => (some (bt193.1, bt193.2.1, bt193.2.2, 65535))) = some (r1, r2, r3, r4) := H
     have A54 := Aside0.mk A540
     clear A540
     replace H := Option.bind_eq_some_iff.mp H
     obtain ⟨⟨t193, t194, t195⟩, A550, H⟩ := H
     replace H : (some (t193, t194, t195, 65535)) = some (r1, r2, r3, r4) := H
     have A55 := Aside0.mk A550
     clear A550
     simp only [Option.some.injEq, Prod.mk.injEq] at H
     obtain ⟨rfl, rfl, rfl, rfl⟩ := H
     try go_wp2
     replace KA := Aside0.mk (blk_drew KA.out)
     replace KB := Aside0.mk (blk_drew KB.out)
     replace KC := Aside0.mk (blk_drew KC.out)
     replace KD := Aside0.mk (blk_drew KD.out)
     replace KE := Aside0.mk (blk_drew KE.out)
     replace KF := Aside0.mk (blk_drew KF.out)
     replace HB := Aside0.mk (below_drew1 HB.out)
     refine start_ (n := 8) (S := fun w' => w'.cell? ⟨gD, 0, none⟩ = some (.int .i64 t167) ∧ w'.cell? ⟨gD, 1, none⟩ = some (.int .i64 t168) ∧ w'.cell? ⟨gD, 2, none⟩ = some (.int .i64 t169) ∧ w'.cell? ⟨gE, 0, none⟩ = some (.int .i64 t174) ∧ w'.cell? ⟨gE, 1, none⟩ = some (.int .i64 t175) ∧ w'.cell? ⟨gE, 2, none⟩ = some (.int .i64 t176)) (ds := []) #[false, false, false, false, false, false, false, false] (by kernel_rfl) rfl rfl ⟨bc_ KD.out 0 rfl, bc_ KD.out 1 rfl, bc_ KD.out 2 rfl, bc_ KE.out 0 rfl, bc_ KE.out 1 rfl, bc_ KE.out 2 rfl⟩ (fun hHeld => ?_); refine with_tabW blend_Colors.tab13 blend_Colors.bits13 (fun HT_ HW_ => ?_)
     generalize wc.drew = w56 at KA KB KC KD KE KF HB hHeld ⊢
     refine take_ (i := 0) (N := some 46) (v := ?_) (a' := ?_) #[true, false, false, false, false, false, false, false] rfl rfl (take_ofW HT_.out HW_.out (by kernel_rfl)) (fun _ _ _ h => h) (Or.inl ⟨by rfl, ?_⟩) hHeld ?_ ?_
     rotate_left
     ·rintro w' ⟨s0, s1, s2, s3, s4, s5⟩
      go_simp
      with_reducible rfl
     rotate_left
     ·refine ps ?_
      rfl
     refine take_ (i := 1) (N := some 47) (v := ?_) (a' := ?_) #[true, true, false, false, false, false, false, false] rfl rfl (take_ofW HT_.out HW_.out (by kernel_rfl)) (fun _ _ _ h => h) (Or.inl ⟨by rfl, ?_⟩) hHeld ?_ ?_
     rotate_left
     ·rintro w' ⟨s0, s1, s2, s3, s4, s5⟩
      go_simp
      with_reducible rfl
     rotate_left
     ·refine ps ?_
      rfl
     refine take_ (i := 4) (N := some 50) (v := ?_) (a' := ?_) #[true, true, false, false, true, false, false, false] rfl rfl (take_ofW HT_.out HW_.out (by kernel_rfl)) (fun _ _ _ h => h) (Or.inl ⟨by rfl, ?_⟩) hHeld ?_ ?_
     rotate_left
     ·rintro w' ⟨s0, s1, s2, s3, s4, s5⟩
      go_simp
      with_reducible rfl
     rotate_left
     ·refine ps ?_
      rfl
     refine one_ (i := 2) (N := some 48) #[true, true, true, false, true, false, false, false] rfl rfl (one_of HT_.out (by kernel_rfl)) (by decide) (fun K hK => ?_)
     refine goes_ Try.func52 (by kernel_rfl) rfl #[.agg #[.int .i64 t174, .int .i64 t175, .int .i64 t176]] (by rfl) rfl rfl pm ?_
     with_reducible refine (blend_sat.calls t174 t175 t176 t188 _ A52.out).mono ?_
     rintro e w57 ⟨rfl, hb⟩
     refine ⟨_, rfl, ?_⟩
     replace KA := bb_ KA hb
     replace KB := bb_ KB hb
     replace KC := bb_ KC hb
     replace KD := bb_ KD hb
     replace KE := bb_ KE hb
     replace KF := bb_ KF hb
     replace HB := Aside0.mk (below_step HB.out hb)
     try clear hb
     refine hK.out _ _ ⟨bc_ KD.out 0 rfl, bc_ KD.out 1 rfl, bc_ KD.out 2 rfl, bc_ KE.out 0 rfl, bc_ KE.out 1 rfl, bc_ KE.out 2 rfl⟩ (fun hHeld => ?_)
     clear hK K
     refine norm_ (a' := ?_) ?_ ?_
     rotate_left
     ·show Act.put _ (some 48) _ = _
      refine ps ?_
      rfl
     refine one_ (i := 3) (N := some 49) #[true, true, true, true, true, false, false, false] rfl rfl (one_of HT_.out (by kernel_rfl)) (by decide) (fun K hK => ?_)
     refine goes_ Try.func51 (by kernel_rfl) rfl #[.agg #[.int .i64 t167, .int .i64 t168, .int .i64 t169], .int .i64 t188] (by rfl) rfl rfl pm ?_
     with_reducible refine (blend_setSat.calls kj7 t167 t168 t169 t188 t189 t190 t191 _ A53.out).mono ?_
     rintro e w58 ⟨rfl, hb⟩
     refine ⟨_, rfl, ?_⟩
     replace KA := bb_ KA hb
     replace KB := bb_ KB hb
     replace KC := bb_ KC hb
     replace KD := bb_ KD hb
     replace KE := bb_ KE hb
     replace KF := bb_ KF hb
     replace HB := Aside0.mk (below_step HB.out hb)
     try clear hb
     refine hK.out _ _ ⟨bc_ KD.out 0 rfl, bc_ KD.out 1 rfl, bc_ KD.out 2 rfl, bc_ KE.out 0 rfl, bc_ KE.out 1 rfl, bc_ KE.out 2 rfl⟩ (fun hHeld => ?_)
     clear hK K
     refine norm_ (a' := ?_) ?_ ?_
     rotate_left
     ·show Act.put _ (some 49) _ = _
      refine ps ?_
      rfl
     refine one_ (i := 5) (N := some 51) #[true, true, true, true, true, true, false, false] rfl rfl (one_of HT_.out (by kernel_rfl)) (by decide) (fun K hK => ?_)
     refine goes_ Try.func53 (by kernel_rfl) rfl #[.agg #[.int .i64 t167, .int .i64 t168, .int .i64 t169]] (by rfl) rfl rfl pm ?_
     with_reducible refine (blend_lum.calls kj7 t167 t168 t169 t192 _ A54.out).mono ?_
     rintro e w59 ⟨rfl, hb⟩
     refine ⟨_, rfl, ?_⟩
     replace KA := bb_ KA hb
     replace KB := bb_ KB hb
     replace KC := bb_ KC hb
     replace KD := bb_ KD hb
     replace KE := bb_ KE hb
     replace KF := bb_ KF hb
     replace HB := Aside0.mk (below_step HB.out hb)
     try clear hb
     refine hK.out _ _ ⟨bc_ KD.out 0 rfl, bc_ KD.out 1 rfl, bc_ KD.out 2 rfl, bc_ KE.out 0 rfl, bc_ KE.out 1 rfl, bc_ KE.out 2 rfl⟩ (fun hHeld => ?_)
     clear hK K
     refine norm_ (a' := ?_) ?_ ?_
     rotate_left
     ·show Act.put _ (some 51) _ = _
      refine ps ?_
      rfl
     refine one_ (i := 6) (N := some 52) #[true, true, true, true, true, true, true, false] rfl rfl (one_of HT_.out (by kernel_rfl)) (by decide) (fun K hK => ?_)
     refine goes_ Try.func50 (by kernel_rfl) rfl #[.agg #[.int .i64 t189, .int .i64 t190, .int .i64 t191], .int .i64 t192] (by rfl) rfl rfl pm ?_
     with_reducible refine (blend_setLum.calls kj7 t189 t190 t191 t192 t193 t194 t195 _ A55.out).mono ?_
     rintro e w60 ⟨rfl, hb⟩
     refine ⟨_, rfl, ?_⟩
     replace KA := bb_ KA hb
     replace KB := bb_ KB hb
     replace KC := bb_ KC hb
     replace KD := bb_ KD hb
     replace KE := bb_ KE hb
     replace KF := bb_ KF hb
     replace HB := Aside0.mk (below_step HB.out hb)
     try clear hb
     refine hK.out _ _ ⟨bc_ KD.out 0 rfl, bc_ KD.out 1 rfl, bc_ KD.out 2 rfl, bc_ KE.out 0 rfl, bc_ KE.out 1 rfl, bc_ KE.out 2 rfl⟩ (fun hHeld => ?_)
     clear hK K
     refine norm_ (a' := ?_) ?_ ?_
     rotate_left
     ·show Act.put _ (some 52) _ = _
      refine ps ?_
      rfl
     refine one_ (i := 7) (N := none) #[true, true, true, true, true, true, true, true] rfl rfl (one_of HT_.out (by kernel_rfl)) (by decide) (fun K hK => ?_)
     have hs61 : w60.cell? ⟨gF, 0, none⟩ = some (.int .i64 0) := bc_ KF.out 0 rfl
     have hfs61 := blk_frozen KF.out 0
     have hns61_0 := NAF.out
     have hns61_1 := NBF.out
     have hns61_2 := NCF.out
     have hns61_3 := NDF.out
     have hns61_4 := NEF.out
     have hms61_0 := NFA.out
     have hms61_1 := NFB.out
     have hms61_2 := NFC.out
     have hms61_3 := NFD.out
     have hms61_4 := NFE.out
     have hs62 : w60.cell? ⟨gF, 1, none⟩ = some (.int .i64 0) := bc_ KF.out 1 rfl
     have hfs62 := blk_frozen KF.out 1
     have hns62_0 := NAF.out
     have hns62_1 := NBF.out
     have hns62_2 := NCF.out
     have hns62_3 := NDF.out
     have hns62_4 := NEF.out
     have hms62_0 := NFA.out
     have hms62_1 := NFB.out
     have hms62_2 := NFC.out
     have hms62_3 := NFD.out
     have hms62_4 := NFE.out
     have hs63 : w60.cell? ⟨gF, 2, none⟩ = some (.int .i64 0) := bc_ KF.out 2 rfl
     have hfs63 := blk_frozen KF.out 2
     have hns63_0 := NAF.out
     have hns63_1 := NBF.out
     have hns63_2 := NCF.out
     have hns63_3 := NDF.out
     have hns63_4 := NEF.out
     have hms63_0 := NFA.out
     have hms63_1 := NFB.out
     have hms63_2 := NFC.out
     have hms63_3 := NFD.out
     have hms63_4 := NFE.out
     refine skip_ (w1 := ?_) (by rfl) rfl ?_ ?_
     rotate_left
     ·go_simp
      rfl
     refine hK.out _ _ ⟨((cell_far (p := ⟨gF, _, none⟩) NDF.out _).trans (((cell_far (p := ⟨gF, _, none⟩) NDF.out _).trans (((cell_far (p := ⟨gF, _, none⟩) NDF.out _).trans (hHeld.1)))))), ((cell_far (p := ⟨gF, _, none⟩) NDF.out _).trans (((cell_far (p := ⟨gF, _, none⟩) NDF.out _).trans (((cell_far (p := ⟨gF, _, none⟩) NDF.out _).trans (hHeld.2.1)))))), ((cell_far (p := ⟨gF, _, none⟩) NDF.out _).trans (((cell_far (p := ⟨gF, _, none⟩) NDF.out _).trans (((cell_far (p := ⟨gF, _, none⟩) NDF.out _).trans (hHeld.2.2.1)))))), ((cell_far (p := ⟨gF, _, none⟩) NEF.out _).trans (((cell_far (p := ⟨gF, _, none⟩) NEF.out _).trans (((cell_far (p := ⟨gF, _, none⟩) NEF.out _).trans (hHeld.2.2.2.1)))))), ((cell_far (p := ⟨gF, _, none⟩) NEF.out _).trans (((cell_far (p := ⟨gF, _, none⟩) NEF.out _).trans (((cell_far (p := ⟨gF, _, none⟩) NEF.out _).trans (hHeld.2.2.2.2.1)))))), ((cell_far (p := ⟨gF, _, none⟩) NEF.out _).trans (((cell_far (p := ⟨gF, _, none⟩) NEF.out _).trans (((cell_far (p := ⟨gF, _, none⟩) NEF.out _).trans (hHeld.2.2.2.2.2))))))⟩ (fun hHeld => ?_)
     clear hK K
     refine done_ (done_of HT_.out (by kernel_rfl)) ?_
     have hnb64 := NFA.out
     have hnc64 := NAF.out
     have hnb65 := NFB.out
     have hnc65 := NBF.out
     have hnb66 := NFC.out
     have hnc66 := NCF.out
     have hnb67 := NFD.out
     have hnc67 := NDF.out
     have hnb68 := NFE.out
     have hnc68 := NEF.out
     have hcz69_0 : w60.cell? ⟨gF, 0, none⟩ = some (.int .i64 0) := bc_ KF.out 0 rfl
     have hcz69_1 : w60.cell? ⟨gF, 1, none⟩ = some (.int .i64 0) := bc_ KF.out 1 rfl
     have hcz69_2 : w60.cell? ⟨gF, 2, none⟩ = some (.int .i64 0) := bc_ KF.out 2 rfl
     have hfz69_0 := blk_frozen KF.out 0
     have hfz69_1 := blk_frozen KF.out 1
     have hfz69_2 := blk_frozen KF.out 2
     have hnb70 := NCA.out
     have hnc70 := NAC.out
     have hnb71 := NCB.out
     have hnc71 := NBC.out
     have hnb72 := NCD.out
     have hnc72 := NDC.out
     have hnb73 := NCE.out
     have hnc73 := NEC.out
     have hcz74_0 : w60.cell? ⟨gC, 0, none⟩ = some (.int .i64 0) := bc_ KC.out 0 rfl
     have hcz74_1 : w60.cell? ⟨gC, 1, none⟩ = some (.int .i64 0) := bc_ KC.out 1 rfl
     have hcz74_2 : w60.cell? ⟨gC, 2, none⟩ = some (.int .i64 0) := bc_ KC.out 2 rfl
     have hcz74_3 : w60.cell? ⟨gC, 3, none⟩ = some (.int .i64 0) := bc_ KC.out 3 rfl
     have hfz74_0 := blk_frozen KC.out 0
     have hfz74_1 := blk_frozen KC.out 1
     have hfz74_2 := blk_frozen KC.out 2
     have hfz74_3 := blk_frozen KC.out 3
     try go_wp2
     refine bodyPost_ret (results_cell_row rfl _ _ gC 32 #[.int .i64 t193, .int .i64 t194, .int .i64 t195, .int .i64 65535] (0, 0) _ rfl (by refine pl ?_; refine blk_put (cs := #[.int .i64 t193, .int .i64 t194, .int .i64 t195, .int .i64 0]) ?_ 3 _ rfl; refine pl ?_; refine blk_put (cs := #[.int .i64 t193, .int .i64 t194, .int .i64 0, .int .i64 0]) ?_ 2 _ rfl; refine pl ?_; refine blk_put (cs := #[.int .i64 t193, .int .i64 0, .int .i64 0, .int .i64 0]) ?_ 1 _ rfl; refine pl ?_; refine blk_put (cs := #[.int .i64 0, .int .i64 0, .int .i64 0, .int .i64 0]) ?_ 0 _ rfl; refine pl ?_; refine blk_far ?_ NCF.out _; refine pl ?_; refine blk_far ?_ NCF.out _; refine pl ?_; refine blk_far ?_ NCF.out _; refine pl ?_; exact KC.out) Try.underlying32 rfl (by kernel_rfl)) rfl ?_
     exact ⟨by first | rfl | (simp [errW_none, errW_some] <;> rfl) | (simp [*, errW_none, errW_some] <;> rfl), by repeat (first | (with_reducible first | exact HB.out | apply below_alloc | apply pw_below_drewN | apply below_drew1 | refine below_set ?_ GEA.out | refine below_set ?_ GEB.out | refine below_set ?_ GEC.out | refine below_set ?_ GED.out | refine below_set ?_ GEE.out | refine below_set ?_ GEF.out) | exact HB.out)⟩
    ·rw [if_neg c51] at H
     have c51b0 : (x18_7 == 15) = false := beq_eq_false_iff_ne.mpr c51
     have c51b1 : (x18_7 != 15) = true := bne_iff_ne.mpr c51
     by_cases c75 : x18_7 = 16
     ·rw [if_pos c75] at H
      have c75b0 : (x18_7 == 16) = true := beq_iff_eq.mpr c75
      have c75b1 : (x18_7 != 16) = false := bne_eq_false_iff_eq.mpr c75
      clear c75
      replace H := Option.bind_eq_some_iff.mp H
      obtain ⟨t196, A760, H⟩ := H
      replace H : ((blend_setLum.f kj7 t174 t175 t176 t196).bind fun bt197 => (some (bt197.1, bt197.2.1, bt197.2.2, 65535))) = some (r1, r2, r3, r4) := H
      have A76 := Aside0.mk A760
      clear A760
      replace H := Option.bind_eq_some_iff.mp H
      obtain ⟨⟨t197, t198, t199⟩, A770, H⟩ := H
      replace H : (some (t197, t198, t199, 65535)) = some (r1, r2, r3, r4) := H
      have A77 := Aside0.mk A770
      clear A770
      simp only [Option.some.injEq, Prod.mk.injEq] at H
      obtain ⟨rfl, rfl, rfl, rfl⟩ := H
      try go_wp2
      replace KA := Aside0.mk (blk_drew KA.out)
      replace KB := Aside0.mk (blk_drew KB.out)
      replace KC := Aside0.mk (blk_drew KC.out)
      replace KD := Aside0.mk (blk_drew KD.out)
      replace KE := Aside0.mk (blk_drew KE.out)
      replace KF := Aside0.mk (blk_drew KF.out)
      replace HB := Aside0.mk (below_drew1 HB.out)
      refine start_ (n := 5) (S := fun w' => w'.cell? ⟨gE, 0, none⟩ = some (.int .i64 t174) ∧ w'.cell? ⟨gE, 1, none⟩ = some (.int .i64 t175) ∧ w'.cell? ⟨gE, 2, none⟩ = some (.int .i64 t176) ∧ w'.cell? ⟨gD, 0, none⟩ = some (.int .i64 t167) ∧ w'.cell? ⟨gD, 1, none⟩ = some (.int .i64 t168) ∧ w'.cell? ⟨gD, 2, none⟩ = some (.int .i64 t169)) (ds := []) #[false, false, false, false, false] (by kernel_rfl) rfl rfl ⟨bc_ KE.out 0 rfl, bc_ KE.out 1 rfl, bc_ KE.out 2 rfl, bc_ KD.out 0 rfl, bc_ KD.out 1 rfl, bc_ KD.out 2 rfl⟩ (fun hHeld => ?_)
      generalize wc.drew = w78 at KA KB KC KD KE KF HB hHeld ⊢
      refine take_ (i := 0) (N := some 55) (v := ?_) (a' := ?_) #[true, false, false, false, false] rfl rfl (by kernel_rfl) (fun _ _ _ h => h) (Or.inl ⟨by rfl, ?_⟩) hHeld ?_ ?_
      rotate_left
      ·rintro w' ⟨s0, s1, s2, s3, s4, s5⟩
       go_simp
       with_reducible rfl
      rotate_left
      ·refine ps ?_
       rfl
      refine take_ (i := 1) (N := some 56) (v := ?_) (a' := ?_) #[true, true, false, false, false] rfl rfl (by kernel_rfl) (fun _ _ _ h => h) (Or.inl ⟨by rfl, ?_⟩) hHeld ?_ ?_
      rotate_left
      ·rintro w' ⟨s0, s1, s2, s3, s4, s5⟩
       go_simp
       with_reducible rfl
      rotate_left
      ·refine ps ?_
       rfl
      refine one_ (i := 2) (N := some 57) #[true, true, true, false, false] rfl rfl (by kernel_rfl) (by decide) (fun K hK => ?_)
      refine goes_ Try.func53 (by kernel_rfl) rfl #[.agg #[.int .i64 t167, .int .i64 t168, .int .i64 t169]] (by rfl) rfl rfl pm ?_
      with_reducible refine (blend_lum.calls kj7 t167 t168 t169 t196 _ A76.out).mono ?_
      rintro e w79 ⟨rfl, hb⟩
      refine ⟨_, rfl, ?_⟩
      replace KA := bb_ KA hb
      replace KB := bb_ KB hb
      replace KC := bb_ KC hb
      replace KD := bb_ KD hb
      replace KE := bb_ KE hb
      replace KF := bb_ KF hb
      replace HB := Aside0.mk (below_step HB.out hb)
      try clear hb
      refine hK.out _ _ ⟨bc_ KE.out 0 rfl, bc_ KE.out 1 rfl, bc_ KE.out 2 rfl, bc_ KD.out 0 rfl, bc_ KD.out 1 rfl, bc_ KD.out 2 rfl⟩ (fun hHeld => ?_)
      clear hK K
      refine norm_ (a' := ?_) ?_ ?_
      rotate_left
      ·show Act.put _ (some 57) _ = _
       refine ps ?_
       rfl
      refine one_ (i := 3) (N := some 58) #[true, true, true, true, false] rfl rfl (by kernel_rfl) (by decide) (fun K hK => ?_)
      refine goes_ Try.func50 (by kernel_rfl) rfl #[.agg #[.int .i64 t174, .int .i64 t175, .int .i64 t176], .int .i64 t196] (by rfl) rfl rfl pm ?_
      with_reducible refine (blend_setLum.calls kj7 t174 t175 t176 t196 t197 t198 t199 _ A77.out).mono ?_
      rintro e w80 ⟨rfl, hb⟩
      refine ⟨_, rfl, ?_⟩
      replace KA := bb_ KA hb
      replace KB := bb_ KB hb
      replace KC := bb_ KC hb
      replace KD := bb_ KD hb
      replace KE := bb_ KE hb
      replace KF := bb_ KF hb
      replace HB := Aside0.mk (below_step HB.out hb)
      try clear hb
      refine hK.out _ _ ⟨bc_ KE.out 0 rfl, bc_ KE.out 1 rfl, bc_ KE.out 2 rfl, bc_ KD.out 0 rfl, bc_ KD.out 1 rfl, bc_ KD.out 2 rfl⟩ (fun hHeld => ?_)
      clear hK K
      refine norm_ (a' := ?_) ?_ ?_
      rotate_left
      ·show Act.put _ (some 58) _ = _
       refine ps ?_
       rfl
      refine one_ (i := 4) (N := none) #[true, true, true, true, true] rfl rfl (by kernel_rfl) (by decide) (fun K hK => ?_)
      have hs81 : w80.cell? ⟨gF, 0, none⟩ = some (.int .i64 0) := bc_ KF.out 0 rfl
      have hfs81 := blk_frozen KF.out 0
      have hns81_0 := NAF.out
      have hns81_1 := NBF.out
      have hns81_2 := NCF.out
      have hns81_3 := NDF.out
      have hns81_4 := NEF.out
      have hms81_0 := NFA.out
      have hms81_1 := NFB.out
      have hms81_2 := NFC.out
      have hms81_3 := NFD.out
      have hms81_4 := NFE.out
      have hs82 : w80.cell? ⟨gF, 1, none⟩ = some (.int .i64 0) := bc_ KF.out 1 rfl
      have hfs82 := blk_frozen KF.out 1
      have hns82_0 := NAF.out
      have hns82_1 := NBF.out
      have hns82_2 := NCF.out
      have hns82_3 := NDF.out
      have hns82_4 := NEF.out
      have hms82_0 := NFA.out
      have hms82_1 := NFB.out
      have hms82_2 := NFC.out
      have hms82_3 := NFD.out
      have hms82_4 := NFE.out
      have hs83 : w80.cell? ⟨gF, 2, none⟩ = some (.int .i64 0) := bc_ KF.out 2 rfl
      have hfs83 := blk_frozen KF.out 2
      have hns83_0 := NAF.out
      have hns83_1 := NBF.out
      have hns83_2 := NCF.out
      have hns83_3 := NDF.out
      have hns83_4 := NEF.out
      have hms83_0 := NFA.out
      have hms83_1 := NFB.out
      have hms83_2 := NFC.out
      have hms83_3 := NFD.out
      have hms83_4 := NFE.out
      refine skip_ (w1 := ?_) (by rfl) rfl ?_ ?_
      rotate_left
      ·go_simp
       rfl
      refine hK.out _ _ ⟨((cell_far (p := ⟨gF, _, none⟩) NEF.out _).trans (((cell_far (p := ⟨gF, _, none⟩) NEF.out _).trans (((cell_far (p := ⟨gF, _, none⟩) NEF.out _).trans (hHeld.1)))))), ((cell_far (p := ⟨gF, _, none⟩) NEF.out _).trans (((cell_far (p := ⟨gF, _, none⟩) NEF.out _).trans (((cell_far (p := ⟨gF, _, none⟩) NEF.out _).trans (hHeld.2.1)))))), ((cell_far (p := ⟨gF, _, none⟩) NEF.out _).trans (((cell_far (p := ⟨gF, _, none⟩) NEF.out _).trans (((cell_far (p := ⟨gF, _, none⟩) NEF.out _).trans (hHeld.2.2.1)))))), ((cell_far (p := ⟨gF, _, none⟩) NDF.out _).trans (((cell_far (p := ⟨gF, _, none⟩) NDF.out _).trans (((cell_far (p := ⟨gF, _, none⟩) NDF.out _).trans (hHeld.2.2.2.1)))))), ((cell_far (p := ⟨gF, _, none⟩) NDF.out _).trans (((cell_far (p := ⟨gF, _, none⟩) NDF.out _).trans (((cell_far (p := ⟨gF, _, none⟩) NDF.out _).trans (hHeld.2.2.2.2.1)))))), ((cell_far (p := ⟨gF, _, none⟩) NDF.out _).trans (((cell_far (p := ⟨gF, _, none⟩) NDF.out _).trans (((cell_far (p := ⟨gF, _, none⟩) NDF.out _).trans (hHeld.2.2.2.2.2))))))⟩ (fun hHeld => ?_)
      clear hK K
      refine done_ (by kernel_rfl) ?_
      have hnb84 := NFA.out
      have hnc84 := NAF.out
      have hnb85 := NFB.out
      have hnc85 := NBF.out
      have hnb86 := NFC.out
      have hnc86 := NCF.out
      have hnb87 := NFD.out
      have hnc87 := NDF.out
      have hnb88 := NFE.out
      have hnc88 := NEF.out
      have hcz89_0 : w80.cell? ⟨gF, 0, none⟩ = some (.int .i64 0) := bc_ KF.out 0 rfl
      have hcz89_1 : w80.cell? ⟨gF, 1, none⟩ = some (.int .i64 0) := bc_ KF.out 1 rfl
      have hcz89_2 : w80.cell? ⟨gF, 2, none⟩ = some (.int .i64 0) := bc_ KF.out 2 rfl
      have hfz89_0 := blk_frozen KF.out 0
      have hfz89_1 := blk_frozen KF.out 1
      have hfz89_2 := blk_frozen KF.out 2
      have hnb90 := NCA.out
      have hnc90 := NAC.out
      have hnb91 := NCB.out
      have hnc91 := NBC.out
      have hnb92 := NCD.out
      have hnc92 := NDC.out
      have hnb93 := NCE.out
      have hnc93 := NEC.out
      have hcz94_0 : w80.cell? ⟨gC, 0, none⟩ = some (.int .i64 0) := bc_ KC.out 0 rfl
      have hcz94_1 : w80.cell? ⟨gC, 1, none⟩ = some (.int .i64 0) := bc_ KC.out 1 rfl
      have hcz94_2 : w80.cell? ⟨gC, 2, none⟩ = some (.int .i64 0) := bc_ KC.out 2 rfl
      have hcz94_3 : w80.cell? ⟨gC, 3, none⟩ = some (.int .i64 0) := bc_ KC.out 3 rfl
      have hfz94_0 := blk_frozen KC.out 0
      have hfz94_1 := blk_frozen KC.out 1
      have hfz94_2 := blk_frozen KC.out 2
      have hfz94_3 := blk_frozen KC.out 3
      try go_wp2
      refine bodyPost_ret (results_cell_row rfl _ _ gC 32 #[.int .i64 t197, .int .i64 t198, .int .i64 t199, .int .i64 65535] (0, 0) _ rfl (by refine pl ?_; refine blk_put (cs := #[.int .i64 t197, .int .i64 t198, .int .i64 t199, .int .i64 0]) ?_ 3 _ rfl; refine pl ?_; refine blk_put (cs := #[.int .i64 t197, .int .i64 t198, .int .i64 0, .int .i64 0]) ?_ 2 _ rfl; refine pl ?_; refine blk_put (cs := #[.int .i64 t197, .int .i64 0, .int .i64 0, .int .i64 0]) ?_ 1 _ rfl; refine pl ?_; refine blk_put (cs := #[.int .i64 0, .int .i64 0, .int .i64 0, .int .i64 0]) ?_ 0 _ rfl; refine pl ?_; refine blk_far ?_ NCF.out _; refine pl ?_; refine blk_far ?_ NCF.out _; refine pl ?_; refine blk_far ?_ NCF.out _; refine pl ?_; exact KC.out) Try.underlying32 rfl (by kernel_rfl)) rfl ?_
      exact ⟨by first | rfl | (simp [errW_none, errW_some] <;> rfl) | (simp [*, errW_none, errW_some] <;> rfl), by repeat (first | (with_reducible first | exact HB.out | apply below_alloc | apply pw_below_drewN | apply below_drew1 | refine below_set ?_ GEA.out | refine below_set ?_ GEB.out | refine below_set ?_ GEC.out | refine below_set ?_ GED.out | refine below_set ?_ GEE.out | refine below_set ?_ GEF.out) | exact HB.out)⟩
     ·rw [if_neg c75] at H
      have c75b0 : (x18_7 == 16) = false := beq_eq_false_iff_ne.mpr c75
      have c75b1 : (x18_7 != 16) = true := bne_iff_ne.mpr c75
      by_cases c95 : x18_7 = 17
      ·rw [if_pos c95] at H
       have c95b0 : (x18_7 == 17) = true := beq_iff_eq.mpr c95
       have c95b1 : (x18_7 != 17) = false := bne_eq_false_iff_eq.mpr c95
       clear c95
       replace H := Option.bind_eq_some_iff.mp H
       obtain ⟨t200, A960, H⟩ := H
       replace H : ((blend_setLum.f kj7 t167 t168 t169 t200).bind fun bt201 => (some (bt201.1, bt201.2.1, bt201.2.2, 65535))) = some (r1, r2, r3, r4) := H
       have A96 := Aside0.mk A960
       clear A960
       replace H := Option.bind_eq_some_iff.mp H
       obtain ⟨⟨t201, t202, t203⟩, A970, H⟩ := H
       replace H : (some (t201, t202, t203, 65535)) = some (r1, r2, r3, r4) := H
       have A97 := Aside0.mk A970
       clear A970
       simp only [Option.some.injEq, Prod.mk.injEq] at H
       obtain ⟨rfl, rfl, rfl, rfl⟩ := H
       try go_wp2
       replace KA := Aside0.mk (blk_drew KA.out)
       replace KB := Aside0.mk (blk_drew KB.out)
       replace KC := Aside0.mk (blk_drew KC.out)
       replace KD := Aside0.mk (blk_drew KD.out)
       replace KE := Aside0.mk (blk_drew KE.out)
       replace KF := Aside0.mk (blk_drew KF.out)
       replace HB := Aside0.mk (below_drew1 HB.out)
       refine start_ (n := 5) (S := fun w' => w'.cell? ⟨gD, 0, none⟩ = some (.int .i64 t167) ∧ w'.cell? ⟨gD, 1, none⟩ = some (.int .i64 t168) ∧ w'.cell? ⟨gD, 2, none⟩ = some (.int .i64 t169) ∧ w'.cell? ⟨gE, 0, none⟩ = some (.int .i64 t174) ∧ w'.cell? ⟨gE, 1, none⟩ = some (.int .i64 t175) ∧ w'.cell? ⟨gE, 2, none⟩ = some (.int .i64 t176)) (ds := []) #[false, false, false, false, false] (by kernel_rfl) rfl rfl ⟨bc_ KD.out 0 rfl, bc_ KD.out 1 rfl, bc_ KD.out 2 rfl, bc_ KE.out 0 rfl, bc_ KE.out 1 rfl, bc_ KE.out 2 rfl⟩ (fun hHeld => ?_)
       generalize wc.drew = w98 at KA KB KC KD KE KF HB hHeld ⊢
       refine take_ (i := 0) (N := some 61) (v := ?_) (a' := ?_) #[true, false, false, false, false] rfl rfl (by kernel_rfl) (fun _ _ _ h => h) (Or.inl ⟨by rfl, ?_⟩) hHeld ?_ ?_
       rotate_left
       ·rintro w' ⟨s0, s1, s2, s3, s4, s5⟩
        go_simp
        with_reducible rfl
       rotate_left
       ·refine ps ?_
        rfl
       refine take_ (i := 1) (N := some 62) (v := ?_) (a' := ?_) #[true, true, false, false, false] rfl rfl (by kernel_rfl) (fun _ _ _ h => h) (Or.inl ⟨by rfl, ?_⟩) hHeld ?_ ?_
       rotate_left
       ·rintro w' ⟨s0, s1, s2, s3, s4, s5⟩
        go_simp
        with_reducible rfl
       rotate_left
       ·refine ps ?_
        rfl
       refine one_ (i := 2) (N := some 63) #[true, true, true, false, false] rfl rfl (by kernel_rfl) (by decide) (fun K hK => ?_)
       refine goes_ Try.func53 (by kernel_rfl) rfl #[.agg #[.int .i64 t174, .int .i64 t175, .int .i64 t176]] (by rfl) rfl rfl pm ?_
       with_reducible refine (blend_lum.calls kj7 t174 t175 t176 t200 _ A96.out).mono ?_
       rintro e w99 ⟨rfl, hb⟩
       refine ⟨_, rfl, ?_⟩
       replace KA := bb_ KA hb
       replace KB := bb_ KB hb
       replace KC := bb_ KC hb
       replace KD := bb_ KD hb
       replace KE := bb_ KE hb
       replace KF := bb_ KF hb
       replace HB := Aside0.mk (below_step HB.out hb)
       try clear hb
       refine hK.out _ _ ⟨bc_ KD.out 0 rfl, bc_ KD.out 1 rfl, bc_ KD.out 2 rfl, bc_ KE.out 0 rfl, bc_ KE.out 1 rfl, bc_ KE.out 2 rfl⟩ (fun hHeld => ?_)
       clear hK K
       refine norm_ (a' := ?_) ?_ ?_
       rotate_left
       ·show Act.put _ (some 63) _ = _
        refine ps ?_
        rfl
       refine one_ (i := 3) (N := some 64) #[true, true, true, true, false] rfl rfl (by kernel_rfl) (by decide) (fun K hK => ?_)
       refine goes_ Try.func50 (by kernel_rfl) rfl #[.agg #[.int .i64 t167, .int .i64 t168, .int .i64 t169], .int .i64 t200] (by rfl) rfl rfl pm ?_
       with_reducible refine (blend_setLum.calls kj7 t167 t168 t169 t200 t201 t202 t203 _ A97.out).mono ?_
       rintro e w100 ⟨rfl, hb⟩
       refine ⟨_, rfl, ?_⟩
       replace KA := bb_ KA hb
       replace KB := bb_ KB hb
       replace KC := bb_ KC hb
       replace KD := bb_ KD hb
       replace KE := bb_ KE hb
       replace KF := bb_ KF hb
       replace HB := Aside0.mk (below_step HB.out hb)
       try clear hb
       refine hK.out _ _ ⟨bc_ KD.out 0 rfl, bc_ KD.out 1 rfl, bc_ KD.out 2 rfl, bc_ KE.out 0 rfl, bc_ KE.out 1 rfl, bc_ KE.out 2 rfl⟩ (fun hHeld => ?_)
       clear hK K
       refine norm_ (a' := ?_) ?_ ?_
       rotate_left
       ·show Act.put _ (some 64) _ = _
        refine ps ?_
        rfl
       refine one_ (i := 4) (N := none) #[true, true, true, true, true] rfl rfl (by kernel_rfl) (by decide) (fun K hK => ?_)
       have hs101 : w100.cell? ⟨gF, 0, none⟩ = some (.int .i64 0) := bc_ KF.out 0 rfl
       have hfs101 := blk_frozen KF.out 0
       have hns101_0 := NAF.out
       have hns101_1 := NBF.out
       have hns101_2 := NCF.out
       have hns101_3 := NDF.out
       have hns101_4 := NEF.out
       have hms101_0 := NFA.out
       have hms101_1 := NFB.out
       have hms101_2 := NFC.out
       have hms101_3 := NFD.out
       have hms101_4 := NFE.out
       have hs102 : w100.cell? ⟨gF, 1, none⟩ = some (.int .i64 0) := bc_ KF.out 1 rfl
       have hfs102 := blk_frozen KF.out 1
       have hns102_0 := NAF.out
       have hns102_1 := NBF.out
       have hns102_2 := NCF.out
       have hns102_3 := NDF.out
       have hns102_4 := NEF.out
       have hms102_0 := NFA.out
       have hms102_1 := NFB.out
       have hms102_2 := NFC.out
       have hms102_3 := NFD.out
       have hms102_4 := NFE.out
       have hs103 : w100.cell? ⟨gF, 2, none⟩ = some (.int .i64 0) := bc_ KF.out 2 rfl
       have hfs103 := blk_frozen KF.out 2
       have hns103_0 := NAF.out
       have hns103_1 := NBF.out
       have hns103_2 := NCF.out
       have hns103_3 := NDF.out
       have hns103_4 := NEF.out
       have hms103_0 := NFA.out
       have hms103_1 := NFB.out
       have hms103_2 := NFC.out
       have hms103_3 := NFD.out
       have hms103_4 := NFE.out
       refine skip_ (w1 := ?_) (by rfl) rfl ?_ ?_
       rotate_left
       ·go_simp
        rfl
       refine hK.out _ _ ⟨((cell_far (p := ⟨gF, _, none⟩) NDF.out _).trans (((cell_far (p := ⟨gF, _, none⟩) NDF.out _).trans (((cell_far (p := ⟨gF, _, none⟩) NDF.out _).trans (hHeld.1)))))), ((cell_far (p := ⟨gF, _, none⟩) NDF.out _).trans (((cell_far (p := ⟨gF, _, none⟩) NDF.out _).trans (((cell_far (p := ⟨gF, _, none⟩) NDF.out _).trans (hHeld.2.1)))))), ((cell_far (p := ⟨gF, _, none⟩) NDF.out _).trans (((cell_far (p := ⟨gF, _, none⟩) NDF.out _).trans (((cell_far (p := ⟨gF, _, none⟩) NDF.out _).trans (hHeld.2.2.1)))))), ((cell_far (p := ⟨gF, _, none⟩) NEF.out _).trans (((cell_far (p := ⟨gF, _, none⟩) NEF.out _).trans (((cell_far (p := ⟨gF, _, none⟩) NEF.out _).trans (hHeld.2.2.2.1)))))), ((cell_far (p := ⟨gF, _, none⟩) NEF.out _).trans (((cell_far (p := ⟨gF, _, none⟩) NEF.out _).trans (((cell_far (p := ⟨gF, _, none⟩) NEF.out _).trans (hHeld.2.2.2.2.1)))))), ((cell_far (p := ⟨gF, _, none⟩) NEF.out _).trans (((cell_far (p := ⟨gF, _, none⟩) NEF.out _).trans (((cell_far (p := ⟨gF, _, none⟩) NEF.out _).trans (hHeld.2.2.2.2.2))))))⟩ (fun hHeld => ?_)
       clear hK K
       refine done_ (by kernel_rfl) ?_
       have hnb104 := NFA.out
       have hnc104 := NAF.out
       have hnb105 := NFB.out
       have hnc105 := NBF.out
       have hnb106 := NFC.out
       have hnc106 := NCF.out
       have hnb107 := NFD.out
       have hnc107 := NDF.out
       have hnb108 := NFE.out
       have hnc108 := NEF.out
       have hcz109_0 : w100.cell? ⟨gF, 0, none⟩ = some (.int .i64 0) := bc_ KF.out 0 rfl
       have hcz109_1 : w100.cell? ⟨gF, 1, none⟩ = some (.int .i64 0) := bc_ KF.out 1 rfl
       have hcz109_2 : w100.cell? ⟨gF, 2, none⟩ = some (.int .i64 0) := bc_ KF.out 2 rfl
       have hfz109_0 := blk_frozen KF.out 0
       have hfz109_1 := blk_frozen KF.out 1
       have hfz109_2 := blk_frozen KF.out 2
       have hnb110 := NCA.out
       have hnc110 := NAC.out
       have hnb111 := NCB.out
       have hnc111 := NBC.out
       have hnb112 := NCD.out
       have hnc112 := NDC.out
       have hnb113 := NCE.out
       have hnc113 := NEC.out
       have hcz114_0 : w100.cell? ⟨gC, 0, none⟩ = some (.int .i64 0) := bc_ KC.out 0 rfl
       have hcz114_1 : w100.cell? ⟨gC, 1, none⟩ = some (.int .i64 0) := bc_ KC.out 1 rfl
       have hcz114_2 : w100.cell? ⟨gC, 2, none⟩ = some (.int .i64 0) := bc_ KC.out 2 rfl
       have hcz114_3 : w100.cell? ⟨gC, 3, none⟩ = some (.int .i64 0) := bc_ KC.out 3 rfl
       have hfz114_0 := blk_frozen KC.out 0
       have hfz114_1 := blk_frozen KC.out 1
       have hfz114_2 := blk_frozen KC.out 2
       have hfz114_3 := blk_frozen KC.out 3
       try go_wp2
       refine bodyPost_ret (results_cell_row rfl _ _ gC 32 #[.int .i64 t201, .int .i64 t202, .int .i64 t203, .int .i64 65535] (0, 0) _ rfl (by refine pl ?_; refine blk_put (cs := #[.int .i64 t201, .int .i64 t202, .int .i64 t203, .int .i64 0]) ?_ 3 _ rfl; refine pl ?_; refine blk_put (cs := #[.int .i64 t201, .int .i64 t202, .int .i64 0, .int .i64 0]) ?_ 2 _ rfl; refine pl ?_; refine blk_put (cs := #[.int .i64 t201, .int .i64 0, .int .i64 0, .int .i64 0]) ?_ 1 _ rfl; refine pl ?_; refine blk_put (cs := #[.int .i64 0, .int .i64 0, .int .i64 0, .int .i64 0]) ?_ 0 _ rfl; refine pl ?_; refine blk_far ?_ NCF.out _; refine pl ?_; refine blk_far ?_ NCF.out _; refine pl ?_; refine blk_far ?_ NCF.out _; refine pl ?_; exact KC.out) Try.underlying32 rfl (by kernel_rfl)) rfl ?_
       exact ⟨by first | rfl | (simp [errW_none, errW_some] <;> rfl) | (simp [*, errW_none, errW_some] <;> rfl), by repeat (first | (with_reducible first | exact HB.out | apply below_alloc | apply pw_below_drewN | apply below_drew1 | refine below_set ?_ GEA.out | refine below_set ?_ GEB.out | refine below_set ?_ GEC.out | refine below_set ?_ GED.out | refine below_set ?_ GEE.out | refine below_set ?_ GEF.out) | exact HB.out)⟩
      ·rw [if_neg c95] at H
       have c95b0 : (x18_7 == 17) = false := beq_eq_false_iff_ne.mpr c95
       have c95b1 : (x18_7 != 17) = true := bne_iff_ne.mpr c95
       replace H := Option.bind_eq_some_iff.mp H
       obtain ⟨t206, A1150, H⟩ := H
       replace H : ((chan.f t168 t175 a0 (ofsign a0)).bind fun t207 => ((chan.f t169 t176 a0 (ofsign a0)).bind fun t208 => (some (t206, t207, t208, 65535)))) = some (r1, r2, r3, r4) := H
       have A115 := Aside0.mk A1150
       clear A1150
       replace H := Option.bind_eq_some_iff.mp H
       obtain ⟨t207, A1160, H⟩ := H
       replace H : ((chan.f t169 t176 a0 (ofsign a0)).bind fun t208 => (some (t206, t207, t208, 65535))) = some (r1, r2, r3, r4) := H
       have A116 := Aside0.mk A1160
       clear A1160
       replace H := Option.bind_eq_some_iff.mp H
       obtain ⟨t208, A1170, H⟩ := H
       replace H : (some (t206, t207, t208, 65535)) = some (r1, r2, r3, r4) := H
       have A117 := Aside0.mk A1170
       clear A1170
       simp only [Option.some.injEq, Prod.mk.injEq] at H
       obtain ⟨rfl, rfl, rfl, rfl⟩ := H
       try go_wp2_with (first | ((with_reducible refine gate_callee (f := 43) rfl ?_); refine goesL_ (some 20) rfl rfl Try.func43 (by kernel_rfl) rfl #[.int .i64 a0] rfl (by (try simp only [List.map_toArray, List.map_cons, List.map_nil]); first | done | rfl) ?_; (with_reducible refine (blend_of.calls a0 _).mono ?_); rintro e w118 ⟨ff_, fc_, gG, gH, rfl, hof, hbox, hbox2, hgm, hgs, hne, hb⟩; refine ⟨_, rfl, ?_⟩; have c0_ := cp_ hb KA; have c1_ := cp_ hb KB; have c2_ := cp_ hb KC; have c3_ := cp_ hb KD; have c4_ := cp_ hb KE; have c5_ := cp_ hb KF; have HOF := Aside0.mk (hof); have KG := Aside0.mk hbox; have KH := Aside0.mk (hbox2); have GWG := Aside0.mk ((Nat.le_trans (below_size (by repeat (first | (with_reducible first | exact HB.out | apply below_alloc | apply pw_below_drewN | apply below_drew1 | refine below_set ?_ GEA.out | refine below_set ?_ GEB.out | refine below_set ?_ GEC.out | refine below_set ?_ GED.out | refine below_set ?_ GEE.out | refine below_set ?_ GEF.out) | exact HB.out))) hgm : w.heap.size ≤ gG)); have GWH := Aside0.mk ((Nat.le_trans (below_size (by repeat (first | (with_reducible first | exact HB.out | apply below_alloc | apply pw_below_drewN | apply below_drew1 | refine below_set ?_ GEA.out | refine below_set ?_ GEB.out | refine below_set ?_ GEC.out | refine below_set ?_ GED.out | refine below_set ?_ GEE.out | refine below_set ?_ GEF.out) | exact HB.out))) hgs : w.heap.size ≤ gH)); have GEG := Aside0.mk ((Nat.le_trans (below_size (by repeat (first | (with_reducible first | exact HB.out | apply below_alloc | apply pw_below_drewN | apply below_drew1 | refine below_set ?_ GEA.out | refine below_set ?_ GEB.out | refine below_set ?_ GEC.out | refine below_set ?_ GED.out | refine below_set ?_ GEE.out | refine below_set ?_ GEF.out) | exact HB.out))) hgm : w.heap.size ≤ gG)); have GEH := Aside0.mk ((Nat.le_trans (below_size (by repeat (first | (with_reducible first | exact HB.out | apply below_alloc | apply pw_below_drewN | apply below_drew1 | refine below_set ?_ GEA.out | refine below_set ?_ GEB.out | refine below_set ?_ GEC.out | refine below_set ?_ GED.out | refine below_set ?_ GEE.out | refine below_set ?_ GEF.out) | exact HB.out))) hgs : w.heap.size ≤ gH)); have NAG := ml_ hgm c0_; have NGA := mg_ hgm c0_; have NAH := ml_ hgs c0_; have NHA := mg_ hgs c0_; have NBG := ml_ hgm c1_; have NGB := mg_ hgm c1_; have NBH := ml_ hgs c1_; have NHB := mg_ hgs c1_; have NCG := ml_ hgm c2_; have NGC := mg_ hgm c2_; have NCH := ml_ hgs c2_; have NHC := mg_ hgs c2_; have NDG := ml_ hgm c3_; have NGD := mg_ hgm c3_; have NDH := ml_ hgs c3_; have NHD := mg_ hgs c3_; have NEG := ml_ hgm c4_; have NGE := mg_ hgm c4_; have NEH := ml_ hgs c4_; have NHE := mg_ hgs c4_; have NFG := ml_ hgm c5_; have NGF := mg_ hgm c5_; have NFH := ml_ hgs c5_; have NHF := mg_ hgs c5_; have NGH := Aside0.mk (hne); have NHG := Aside0.mk (hne.symm); replace KA := bb_ c0_ hb; replace KB := bb_ c1_ hb; replace KC := bb_ c2_ hb; replace KD := bb_ c3_ hb; replace KE := bb_ c4_ hb; replace KF := bb_ c5_ hb; replace HB := Aside0.mk (below_step (by repeat (first | (with_reducible first | exact HB.out | apply below_alloc | apply pw_below_drewN | apply below_drew1 | refine below_set ?_ GEA.out | refine below_set ?_ GEB.out | refine below_set ?_ GEC.out | refine below_set ?_ GED.out | refine below_set ?_ GEE.out | refine below_set ?_ GEF.out) | exact HB.out)) hb); clear c0_ c1_ c2_ c3_ c4_ c5_; clear hb hbox hbox2 hgm hgs hne hof))
       refine wp_loop_rounds 4 ?_
       rw [rounds_succ]
       try go_wp2
       replace KA := Aside0.mk (blk_drew KA.out)
       replace KB := Aside0.mk (blk_drew KB.out)
       replace KC := Aside0.mk (blk_drew KC.out)
       replace KD := Aside0.mk (blk_drew KD.out)
       replace KE := Aside0.mk (blk_drew KE.out)
       replace KF := Aside0.mk (blk_drew KF.out)
       replace KG := Aside0.mk (blk_drew KG.out)
       replace KH := Aside0.mk (blk_drew KH.out)
       replace HB := Aside0.mk (below_drew1 HB.out)
       refine start_ (n := 11) (S := fun w' => w'.cell? ⟨gD, 0, none⟩ = some (.int .i64 t167) ∧ w'.cell? ⟨gD, 1, none⟩ = some (.int .i64 t168) ∧ w'.cell? ⟨gD, 2, none⟩ = some (.int .i64 t169) ∧ w'.cell? ⟨gE, 0, none⟩ = some (.int .i64 t174) ∧ w'.cell? ⟨gE, 1, none⟩ = some (.int .i64 t175) ∧ w'.cell? ⟨gE, 2, none⟩ = some (.int .i64 t176)) (ds := []) #[false, false, false, false, false, false, false, false, false, false, false] (by kernel_rfl) rfl rfl ⟨bc_ KD.out 0 rfl, bc_ KD.out 1 rfl, bc_ KD.out 2 rfl, bc_ KE.out 0 rfl, bc_ KE.out 1 rfl, bc_ KE.out 2 rfl⟩ (fun hHeld => ?_); refine with_tabW blend_Colors.tab8 blend_Colors.bits8 (fun HT_ HW_ => ?_)
       generalize w118.drew = w119 at KA KB KC KD KE KF KG KH HB hHeld ⊢
       refine pure_ (i := 0) (N := some 24) (v := ?_) (a' := ?_) #[true, false, false, false, false, false, false, false, false, false, false] rfl rfl (any_of HT_.out (by kernel_rfl)) (fun _ _ _ h => h) (Or.inl ⟨by rfl, ?_⟩) ?_ ?_
       rotate_left
       ·intro w'
        go_simp
        with_reducible rfl
       rotate_left
       ·refine ps ?_
        rfl
       refine pure_ (i := 1) (N := some 25) (v := ?_) (a' := ?_) #[true, true, false, false, false, false, false, false, false, false, false] rfl rfl (any_of HT_.out (by kernel_rfl)) (fun _ _ _ h => h) (Or.inl ⟨by rfl, ?_⟩) ?_ ?_
       rotate_left
       ·intro w'
        go_simp
        with_reducible rfl
       rotate_left
       ·refine ps ?_
        rfl
       refine pure_ (i := 2) (N := some 26) (v := ?_) (a' := ?_) #[true, true, true, false, false, false, false, false, false, false, false] rfl rfl (any_of HT_.out (by kernel_rfl)) (fun _ _ _ h => h) (Or.inl ⟨by rfl, ?_⟩) ?_ ?_
       rotate_left
       ·intro w'
        go_simp
        with_reducible rfl
       rotate_left
       ·refine ps ?_
        rfl
       refine pure_ (i := 3) (N := some 27) (v := ?_) (a' := ?_) #[true, true, true, true, false, false, false, false, false, false, false] rfl rfl (any_of HT_.out (by kernel_rfl)) (fun _ _ _ h => h) (Or.inl ⟨by rfl, ?_⟩) ?_ ?_
       rotate_left
       ·intro w'
        go_simp
        with_reducible rfl
       rotate_left
       ·refine ps ?_
        rfl
       refine pure_ (i := 5) (N := some 29) (v := ?_) (a' := ?_) #[true, true, true, true, false, true, false, false, false, false, false] rfl rfl (any_of HT_.out (by kernel_rfl)) (fun _ _ _ h => h) (Or.inl ⟨by rfl, ?_⟩) ?_ ?_
       rotate_left
       ·intro w'
        go_simp
        with_reducible rfl
       rotate_left
       ·refine ps ?_
        rfl
       refine pure_ (i := 6) (N := some 30) (v := ?_) (a' := ?_) #[true, true, true, true, false, true, true, false, false, false, false] rfl rfl (any_of HT_.out (by kernel_rfl)) (fun _ _ _ h => h) (Or.inl ⟨by rfl, ?_⟩) ?_ ?_
       rotate_left
       ·intro w'
        go_simp
        with_reducible rfl
       rotate_left
       ·refine ps ?_
        rfl
       refine take_ (i := 4) (N := some 28) (v := ?_) (a' := ?_) #[true, true, true, true, true, true, true, false, false, false, false] rfl rfl (take_ofW HT_.out HW_.out (by kernel_rfl)) (fun _ _ _ h => h) (Or.inl ⟨by rfl, ?_⟩) hHeld ?_ ?_
       rotate_left
       ·rintro w' ⟨s0, s1, s2, s3, s4, s5⟩
        go_simp
        with_reducible rfl
       rotate_left
       ·refine ps ?_
        rfl
       refine take_ (i := 7) (N := some 31) (v := ?_) (a' := ?_) #[true, true, true, true, true, true, true, true, false, false, false] rfl rfl (take_ofW HT_.out HW_.out (by kernel_rfl)) (fun _ _ _ h => h) (Or.inl ⟨by rfl, ?_⟩) hHeld ?_ ?_
       rotate_left
       ·rintro w' ⟨s0, s1, s2, s3, s4, s5⟩
        go_simp
        with_reducible rfl
       rotate_left
       ·refine ps ?_
        rfl
       refine one_ (i := 8) (N := some 32) #[true, true, true, true, true, true, true, true, true, false, false] rfl rfl (one_of HT_.out (by kernel_rfl)) (by decide) (fun K hK => ?_)
       refine goesF_ HOF.out #[.int .i64 t167, .int .i64 t174] (by rfl) rfl rfl rfl pm ?_
       with_reducible refine (IsOf.calls HOF.out t167 t174  a0  (ofsign a0) t206 _ ?side1 ?side2 A115.out).mono ?_
       (case side1 => refine pl ?_; exact KG.out)
       (case side2 => refine pl ?_; exact KH.out)
       rintro e w120 ⟨rfl, hb⟩
       refine ⟨_, rfl, ?_⟩
       replace KA := bb_ KA hb
       replace KB := bb_ KB hb
       replace KC := bb_ KC hb
       replace KD := bb_ KD hb
       replace KE := bb_ KE hb
       replace KF := bb_ KF hb
       replace KG := bb_ KG hb
       replace KH := bb_ KH hb
       replace HB := Aside0.mk (below_step HB.out hb)
       try clear hb
       refine hK.out _ _ ⟨bc_ KD.out 0 rfl, bc_ KD.out 1 rfl, bc_ KD.out 2 rfl, bc_ KE.out 0 rfl, bc_ KE.out 1 rfl, bc_ KE.out 2 rfl⟩ (fun hHeld => ?_)
       clear hK K
       refine norm_ (a' := ?_) ?_ ?_
       rotate_left
       ·show Act.put _ (some 32) _ = _
        refine ps ?_
        rfl
       refine pure_ (i := 9) (N := some 33) (v := ?_) (a' := ?_) #[true, true, true, true, true, true, true, true, true, true, false] rfl rfl (any_of HT_.out (by kernel_rfl)) (fun _ _ _ h => h) (Or.inl ⟨by rfl, ?_⟩) ?_ ?_
       rotate_left
       ·intro w'
        go_simp
        with_reducible rfl
       rotate_left
       ·refine ps ?_
        rfl
       refine one_ (i := 10) (N := none) #[true, true, true, true, true, true, true, true, true, true, true] rfl rfl (one_of HT_.out (by kernel_rfl)) (by decide) (fun K hK => ?_)
       have hs121 : w120.cell? ⟨gF, 0, none⟩ = some (.int .i64 0) := bc_ KF.out 0 rfl
       have hfs121 := blk_frozen KF.out 0
       have hns121_0 := NAF.out
       have hns121_1 := NBF.out
       have hns121_2 := NCF.out
       have hns121_3 := NDF.out
       have hns121_4 := NEF.out
       have hns121_6 := NGF.out
       have hns121_7 := NHF.out
       have hms121_0 := NFA.out
       have hms121_1 := NFB.out
       have hms121_2 := NFC.out
       have hms121_3 := NFD.out
       have hms121_4 := NFE.out
       have hms121_6 := NFG.out
       have hms121_7 := NFH.out
       refine skip_ (w1 := ?_) (by rfl) rfl ?_ ?_
       rotate_left
       ·go_simp
        rfl
       refine hK.out _ _ ⟨((cell_far (p := ⟨gF, _, none⟩) NDF.out _).trans (hHeld.1)), ((cell_far (p := ⟨gF, _, none⟩) NDF.out _).trans (hHeld.2.1)), ((cell_far (p := ⟨gF, _, none⟩) NDF.out _).trans (hHeld.2.2.1)), ((cell_far (p := ⟨gF, _, none⟩) NEF.out _).trans (hHeld.2.2.2.1)), ((cell_far (p := ⟨gF, _, none⟩) NEF.out _).trans (hHeld.2.2.2.2.1)), ((cell_far (p := ⟨gF, _, none⟩) NEF.out _).trans (hHeld.2.2.2.2.2))⟩ (fun hHeld => ?_)
       clear hK K
       refine done_ (done_of HT_.out (by kernel_rfl)) ?_
       try go_wp2
       rw [rounds_succ]
       try go_wp2
       have n0_ : Aside0 ((w120.setCell ⟨gF, 0, none⟩ (.int .i64 t206)).heap[gA]? = some (.cells #[.int .i64 a1_0, .int .i64 a1_1, .int .i64 a1_2, .int .i64 a1_3] 32 (0, 0))) := ⟨by refine pl ?_; refine blk_far ?_ NAF.out _; refine pl ?_; exact KA.out⟩
       have n1_ : Aside0 ((w120.setCell ⟨gF, 0, none⟩ (.int .i64 t206)).heap[gB]? = some (.cells #[.int .i64 a2_0, .int .i64 a2_1, .int .i64 a2_2, .int .i64 a2_3] 32 (0, 0))) := ⟨by refine pl ?_; refine blk_far ?_ NBF.out _; refine pl ?_; exact KB.out⟩
       have n2_ : Aside0 ((w120.setCell ⟨gF, 0, none⟩ (.int .i64 t206)).heap[gC]? = some (.cells #[.int .i64 0, .int .i64 0, .int .i64 0, .int .i64 0] 32 (0, 0))) := ⟨by refine pl ?_; refine blk_far ?_ NCF.out _; refine pl ?_; exact KC.out⟩
       have n3_ : Aside0 ((w120.setCell ⟨gF, 0, none⟩ (.int .i64 t206)).heap[gD]? = some (.cells #[.int .i64 t167, .int .i64 t168, .int .i64 t169] 56 (0, 0))) := ⟨by refine pl ?_; refine blk_far ?_ NDF.out _; refine pl ?_; exact KD.out⟩
       have n4_ : Aside0 ((w120.setCell ⟨gF, 0, none⟩ (.int .i64 t206)).heap[gE]? = some (.cells #[.int .i64 t174, .int .i64 t175, .int .i64 t176] 56 (0, 0))) := ⟨by refine pl ?_; refine blk_far ?_ NEF.out _; refine pl ?_; exact KE.out⟩
       have n5_ : Aside0 ((w120.setCell ⟨gF, 0, none⟩ (.int .i64 t206)).heap[gF]? = some (.cells #[.int .i64 t206, .int .i64 0, .int .i64 0] 56 (0, 0))) := ⟨by refine pl ?_; refine blk_put (cs := #[.int .i64 0, .int .i64 0, .int .i64 0]) ?_ 0 _ rfl; refine pl ?_; exact KF.out⟩
       have n6_ : Aside0 ((w120.setCell ⟨gF, 0, none⟩ (.int .i64 t206)).heap[gG]? = some (.cells #[.int .i64 a0] 3 (0, 0))) := ⟨by refine pl ?_; refine blk_far ?_ NGF.out _; refine pl ?_; exact KG.out⟩
       have n7_ : Aside0 ((w120.setCell ⟨gF, 0, none⟩ (.int .i64 t206)).heap[gH]? = some (.cells #[.int .i64 (ofsign a0)] 3 (0, 0))) := ⟨by refine pl ?_; refine blk_far ?_ NHF.out _; refine pl ?_; exact KH.out⟩
       have n8_ : Aside0 (Below w.heap.size w (w120.setCell ⟨gF, 0, none⟩ (.int .i64 t206))) := ⟨by repeat (first | (with_reducible first | exact HB.out | apply below_alloc | apply pw_below_drewN | apply below_drew1 | refine below_set ?_ GEA.out | refine below_set ?_ GEB.out | refine below_set ?_ GEC.out | refine below_set ?_ GED.out | refine below_set ?_ GEE.out | refine below_set ?_ GEF.out | refine below_set ?_ GEG.out | refine below_set ?_ GEH.out) | exact HB.out)⟩
       (try clear KA)
       (try clear KB)
       (try clear KC)
       (try clear KD)
       (try clear KE)
       (try clear KF)
       (try clear KG)
       (try clear KH)
       (try clear HB)
       generalize (w120.setCell ⟨gF, 0, none⟩ (.int .i64 t206)) = w122 at n0_ n1_ n2_ n3_ n4_ n5_ n6_ n7_ n8_ ⊢
       have KA := n0_
       have KB := n1_
       have KC := n2_
       have KD := n3_
       have KE := n4_
       have KF := n5_
       have KG := n6_
       have KH := n7_
       have HB := n8_
       clear n0_ n1_ n2_ n3_ n4_ n5_ n6_ n7_ n8_
       replace KA := Aside0.mk (blk_drew KA.out)
       replace KB := Aside0.mk (blk_drew KB.out)
       replace KC := Aside0.mk (blk_drew KC.out)
       replace KD := Aside0.mk (blk_drew KD.out)
       replace KE := Aside0.mk (blk_drew KE.out)
       replace KF := Aside0.mk (blk_drew KF.out)
       replace KG := Aside0.mk (blk_drew KG.out)
       replace KH := Aside0.mk (blk_drew KH.out)
       replace HB := Aside0.mk (below_drew1 HB.out)
       refine start_ (n := 11) (S := fun w' => w'.cell? ⟨gD, 0, none⟩ = some (.int .i64 t167) ∧ w'.cell? ⟨gD, 1, none⟩ = some (.int .i64 t168) ∧ w'.cell? ⟨gD, 2, none⟩ = some (.int .i64 t169) ∧ w'.cell? ⟨gE, 0, none⟩ = some (.int .i64 t174) ∧ w'.cell? ⟨gE, 1, none⟩ = some (.int .i64 t175) ∧ w'.cell? ⟨gE, 2, none⟩ = some (.int .i64 t176)) (ds := []) #[false, false, false, false, false, false, false, false, false, false, false] (by kernel_rfl) rfl rfl ⟨bc_ KD.out 0 rfl, bc_ KD.out 1 rfl, bc_ KD.out 2 rfl, bc_ KE.out 0 rfl, bc_ KE.out 1 rfl, bc_ KE.out 2 rfl⟩ (fun hHeld => ?_); refine with_tabW blend_Colors.tab8 blend_Colors.bits8 (fun HT_ HW_ => ?_)
       generalize w122.drew = w123 at KA KB KC KD KE KF KG KH HB hHeld ⊢
       refine pure_ (i := 0) (N := some 24) (v := ?_) (a' := ?_) #[true, false, false, false, false, false, false, false, false, false, false] rfl rfl (any_of HT_.out (by kernel_rfl)) (fun _ _ _ h => h) (Or.inl ⟨by rfl, ?_⟩) ?_ ?_
       rotate_left
       ·intro w'
        go_simp
        with_reducible rfl
       rotate_left
       ·refine ps ?_
        rfl
       refine pure_ (i := 1) (N := some 25) (v := ?_) (a' := ?_) #[true, true, false, false, false, false, false, false, false, false, false] rfl rfl (any_of HT_.out (by kernel_rfl)) (fun _ _ _ h => h) (Or.inl ⟨by rfl, ?_⟩) ?_ ?_
       rotate_left
       ·intro w'
        go_simp
        with_reducible rfl
       rotate_left
       ·refine ps ?_
        rfl
       refine pure_ (i := 2) (N := some 26) (v := ?_) (a' := ?_) #[true, true, true, false, false, false, false, false, false, false, false] rfl rfl (any_of HT_.out (by kernel_rfl)) (fun _ _ _ h => h) (Or.inl ⟨by rfl, ?_⟩) ?_ ?_
       rotate_left
       ·intro w'
        go_simp
        with_reducible rfl
       rotate_left
       ·refine ps ?_
        rfl
       refine pure_ (i := 3) (N := some 27) (v := ?_) (a' := ?_) #[true, true, true, true, false, false, false, false, false, false, false] rfl rfl (any_of HT_.out (by kernel_rfl)) (fun _ _ _ h => h) (Or.inl ⟨by rfl, ?_⟩) ?_ ?_
       rotate_left
       ·intro w'
        go_simp
        with_reducible rfl
       rotate_left
       ·refine ps ?_
        rfl
       refine pure_ (i := 5) (N := some 29) (v := ?_) (a' := ?_) #[true, true, true, true, false, true, false, false, false, false, false] rfl rfl (any_of HT_.out (by kernel_rfl)) (fun _ _ _ h => h) (Or.inl ⟨by rfl, ?_⟩) ?_ ?_
       rotate_left
       ·intro w'
        go_simp
        with_reducible rfl
       rotate_left
       ·refine ps ?_
        rfl
       refine pure_ (i := 6) (N := some 30) (v := ?_) (a' := ?_) #[true, true, true, true, false, true, true, false, false, false, false] rfl rfl (any_of HT_.out (by kernel_rfl)) (fun _ _ _ h => h) (Or.inl ⟨by rfl, ?_⟩) ?_ ?_
       rotate_left
       ·intro w'
        go_simp
        with_reducible rfl
       rotate_left
       ·refine ps ?_
        rfl
       refine take_ (i := 4) (N := some 28) (v := ?_) (a' := ?_) #[true, true, true, true, true, true, true, false, false, false, false] rfl rfl (take_ofW HT_.out HW_.out (by kernel_rfl)) (fun _ _ _ h => h) (Or.inl ⟨by rfl, ?_⟩) hHeld ?_ ?_
       rotate_left
       ·rintro w' ⟨s0, s1, s2, s3, s4, s5⟩
        go_simp
        with_reducible rfl
       rotate_left
       ·refine ps ?_
        rfl
       refine take_ (i := 7) (N := some 31) (v := ?_) (a' := ?_) #[true, true, true, true, true, true, true, true, false, false, false] rfl rfl (take_ofW HT_.out HW_.out (by kernel_rfl)) (fun _ _ _ h => h) (Or.inl ⟨by rfl, ?_⟩) hHeld ?_ ?_
       rotate_left
       ·rintro w' ⟨s0, s1, s2, s3, s4, s5⟩
        go_simp
        with_reducible rfl
       rotate_left
       ·refine ps ?_
        rfl
       refine one_ (i := 8) (N := some 32) #[true, true, true, true, true, true, true, true, true, false, false] rfl rfl (one_of HT_.out (by kernel_rfl)) (by decide) (fun K hK => ?_)
       refine goesF_ HOF.out #[.int .i64 t168, .int .i64 t175] (by rfl) rfl rfl rfl pm ?_
       with_reducible refine (IsOf.calls HOF.out t168 t175  a0  (ofsign a0) t207 _ ?side1 ?side2 A116.out).mono ?_
       (case side1 => refine pl ?_; exact KG.out)
       (case side2 => refine pl ?_; exact KH.out)
       rintro e w124 ⟨rfl, hb⟩
       refine ⟨_, rfl, ?_⟩
       replace KA := bb_ KA hb
       replace KB := bb_ KB hb
       replace KC := bb_ KC hb
       replace KD := bb_ KD hb
       replace KE := bb_ KE hb
       replace KF := bb_ KF hb
       replace KG := bb_ KG hb
       replace KH := bb_ KH hb
       replace HB := Aside0.mk (below_step HB.out hb)
       try clear hb
       refine hK.out _ _ ⟨bc_ KD.out 0 rfl, bc_ KD.out 1 rfl, bc_ KD.out 2 rfl, bc_ KE.out 0 rfl, bc_ KE.out 1 rfl, bc_ KE.out 2 rfl⟩ (fun hHeld => ?_)
       clear hK K
       refine norm_ (a' := ?_) ?_ ?_
       rotate_left
       ·show Act.put _ (some 32) _ = _
        refine ps ?_
        rfl
       refine pure_ (i := 9) (N := some 33) (v := ?_) (a' := ?_) #[true, true, true, true, true, true, true, true, true, true, false] rfl rfl (any_of HT_.out (by kernel_rfl)) (fun _ _ _ h => h) (Or.inl ⟨by rfl, ?_⟩) ?_ ?_
       rotate_left
       ·intro w'
        go_simp
        with_reducible rfl
       rotate_left
       ·refine ps ?_
        rfl
       refine one_ (i := 10) (N := none) #[true, true, true, true, true, true, true, true, true, true, true] rfl rfl (one_of HT_.out (by kernel_rfl)) (by decide) (fun K hK => ?_)
       have hs125 : w124.cell? ⟨gF, 1, none⟩ = some (.int .i64 0) := bc_ KF.out 1 rfl
       have hfs125 := blk_frozen KF.out 1
       have hns125_0 := NAF.out
       have hns125_1 := NBF.out
       have hns125_2 := NCF.out
       have hns125_3 := NDF.out
       have hns125_4 := NEF.out
       have hns125_6 := NGF.out
       have hns125_7 := NHF.out
       have hms125_0 := NFA.out
       have hms125_1 := NFB.out
       have hms125_2 := NFC.out
       have hms125_3 := NFD.out
       have hms125_4 := NFE.out
       have hms125_6 := NFG.out
       have hms125_7 := NFH.out
       refine skip_ (w1 := ?_) (by rfl) rfl ?_ ?_
       rotate_left
       ·go_simp
        rfl
       refine hK.out _ _ ⟨((cell_far (p := ⟨gF, _, none⟩) NDF.out _).trans (hHeld.1)), ((cell_far (p := ⟨gF, _, none⟩) NDF.out _).trans (hHeld.2.1)), ((cell_far (p := ⟨gF, _, none⟩) NDF.out _).trans (hHeld.2.2.1)), ((cell_far (p := ⟨gF, _, none⟩) NEF.out _).trans (hHeld.2.2.2.1)), ((cell_far (p := ⟨gF, _, none⟩) NEF.out _).trans (hHeld.2.2.2.2.1)), ((cell_far (p := ⟨gF, _, none⟩) NEF.out _).trans (hHeld.2.2.2.2.2))⟩ (fun hHeld => ?_)
       clear hK K
       refine done_ (done_of HT_.out (by kernel_rfl)) ?_
       try go_wp2
       rw [rounds_succ]
       try go_wp2
       have n0_ : Aside0 ((w124.setCell ⟨gF, 1, none⟩ (.int .i64 t207)).heap[gA]? = some (.cells #[.int .i64 a1_0, .int .i64 a1_1, .int .i64 a1_2, .int .i64 a1_3] 32 (0, 0))) := ⟨by refine pl ?_; refine blk_far ?_ NAF.out _; refine pl ?_; exact KA.out⟩
       have n1_ : Aside0 ((w124.setCell ⟨gF, 1, none⟩ (.int .i64 t207)).heap[gB]? = some (.cells #[.int .i64 a2_0, .int .i64 a2_1, .int .i64 a2_2, .int .i64 a2_3] 32 (0, 0))) := ⟨by refine pl ?_; refine blk_far ?_ NBF.out _; refine pl ?_; exact KB.out⟩
       have n2_ : Aside0 ((w124.setCell ⟨gF, 1, none⟩ (.int .i64 t207)).heap[gC]? = some (.cells #[.int .i64 0, .int .i64 0, .int .i64 0, .int .i64 0] 32 (0, 0))) := ⟨by refine pl ?_; refine blk_far ?_ NCF.out _; refine pl ?_; exact KC.out⟩
       have n3_ : Aside0 ((w124.setCell ⟨gF, 1, none⟩ (.int .i64 t207)).heap[gD]? = some (.cells #[.int .i64 t167, .int .i64 t168, .int .i64 t169] 56 (0, 0))) := ⟨by refine pl ?_; refine blk_far ?_ NDF.out _; refine pl ?_; exact KD.out⟩
       have n4_ : Aside0 ((w124.setCell ⟨gF, 1, none⟩ (.int .i64 t207)).heap[gE]? = some (.cells #[.int .i64 t174, .int .i64 t175, .int .i64 t176] 56 (0, 0))) := ⟨by refine pl ?_; refine blk_far ?_ NEF.out _; refine pl ?_; exact KE.out⟩
       have n5_ : Aside0 ((w124.setCell ⟨gF, 1, none⟩ (.int .i64 t207)).heap[gF]? = some (.cells #[.int .i64 t206, .int .i64 t207, .int .i64 0] 56 (0, 0))) := ⟨by refine pl ?_; refine blk_put (cs := #[.int .i64 t206, .int .i64 0, .int .i64 0]) ?_ 1 _ rfl; refine pl ?_; exact KF.out⟩
       have n6_ : Aside0 ((w124.setCell ⟨gF, 1, none⟩ (.int .i64 t207)).heap[gG]? = some (.cells #[.int .i64 a0] 3 (0, 0))) := ⟨by refine pl ?_; refine blk_far ?_ NGF.out _; refine pl ?_; exact KG.out⟩
       have n7_ : Aside0 ((w124.setCell ⟨gF, 1, none⟩ (.int .i64 t207)).heap[gH]? = some (.cells #[.int .i64 (ofsign a0)] 3 (0, 0))) := ⟨by refine pl ?_; refine blk_far ?_ NHF.out _; refine pl ?_; exact KH.out⟩
       have n8_ : Aside0 (Below w.heap.size w (w124.setCell ⟨gF, 1, none⟩ (.int .i64 t207))) := ⟨by repeat (first | (with_reducible first | exact HB.out | apply below_alloc | apply pw_below_drewN | apply below_drew1 | refine below_set ?_ GEA.out | refine below_set ?_ GEB.out | refine below_set ?_ GEC.out | refine below_set ?_ GED.out | refine below_set ?_ GEE.out | refine below_set ?_ GEF.out | refine below_set ?_ GEG.out | refine below_set ?_ GEH.out) | exact HB.out)⟩
       (try clear KA)
       (try clear KB)
       (try clear KC)
       (try clear KD)
       (try clear KE)
       (try clear KF)
       (try clear KG)
       (try clear KH)
       (try clear HB)
       generalize (w124.setCell ⟨gF, 1, none⟩ (.int .i64 t207)) = w126 at n0_ n1_ n2_ n3_ n4_ n5_ n6_ n7_ n8_ ⊢
       have KA := n0_
       have KB := n1_
       have KC := n2_
       have KD := n3_
       have KE := n4_
       have KF := n5_
       have KG := n6_
       have KH := n7_
       have HB := n8_
       clear n0_ n1_ n2_ n3_ n4_ n5_ n6_ n7_ n8_
       replace KA := Aside0.mk (blk_drew KA.out)
       replace KB := Aside0.mk (blk_drew KB.out)
       replace KC := Aside0.mk (blk_drew KC.out)
       replace KD := Aside0.mk (blk_drew KD.out)
       replace KE := Aside0.mk (blk_drew KE.out)
       replace KF := Aside0.mk (blk_drew KF.out)
       replace KG := Aside0.mk (blk_drew KG.out)
       replace KH := Aside0.mk (blk_drew KH.out)
       replace HB := Aside0.mk (below_drew1 HB.out)
       refine start_ (n := 11) (S := fun w' => w'.cell? ⟨gD, 0, none⟩ = some (.int .i64 t167) ∧ w'.cell? ⟨gD, 1, none⟩ = some (.int .i64 t168) ∧ w'.cell? ⟨gD, 2, none⟩ = some (.int .i64 t169) ∧ w'.cell? ⟨gE, 0, none⟩ = some (.int .i64 t174) ∧ w'.cell? ⟨gE, 1, none⟩ = some (.int .i64 t175) ∧ w'.cell? ⟨gE, 2, none⟩ = some (.int .i64 t176)) (ds := []) #[false, false, false, false, false, false, false, false, false, false, false] (by kernel_rfl) rfl rfl ⟨bc_ KD.out 0 rfl, bc_ KD.out 1 rfl, bc_ KD.out 2 rfl, bc_ KE.out 0 rfl, bc_ KE.out 1 rfl, bc_ KE.out 2 rfl⟩ (fun hHeld => ?_); refine with_tabW blend_Colors.tab8 blend_Colors.bits8 (fun HT_ HW_ => ?_)
       generalize w126.drew = w127 at KA KB KC KD KE KF KG KH HB hHeld ⊢
       refine pure_ (i := 0) (N := some 24) (v := ?_) (a' := ?_) #[true, false, false, false, false, false, false, false, false, false, false] rfl rfl (any_of HT_.out (by kernel_rfl)) (fun _ _ _ h => h) (Or.inl ⟨by rfl, ?_⟩) ?_ ?_
       rotate_left
       ·intro w'
        go_simp
        with_reducible rfl
       rotate_left
       ·refine ps ?_
        rfl
       refine pure_ (i := 1) (N := some 25) (v := ?_) (a' := ?_) #[true, true, false, false, false, false, false, false, false, false, false] rfl rfl (any_of HT_.out (by kernel_rfl)) (fun _ _ _ h => h) (Or.inl ⟨by rfl, ?_⟩) ?_ ?_
       rotate_left
       ·intro w'
        go_simp
        with_reducible rfl
       rotate_left
       ·refine ps ?_
        rfl
       refine pure_ (i := 2) (N := some 26) (v := ?_) (a' := ?_) #[true, true, true, false, false, false, false, false, false, false, false] rfl rfl (any_of HT_.out (by kernel_rfl)) (fun _ _ _ h => h) (Or.inl ⟨by rfl, ?_⟩) ?_ ?_
       rotate_left
       ·intro w'
        go_simp
        with_reducible rfl
       rotate_left
       ·refine ps ?_
        rfl
       refine pure_ (i := 3) (N := some 27) (v := ?_) (a' := ?_) #[true, true, true, true, false, false, false, false, false, false, false] rfl rfl (any_of HT_.out (by kernel_rfl)) (fun _ _ _ h => h) (Or.inl ⟨by rfl, ?_⟩) ?_ ?_
       rotate_left
       ·intro w'
        go_simp
        with_reducible rfl
       rotate_left
       ·refine ps ?_
        rfl
       refine pure_ (i := 5) (N := some 29) (v := ?_) (a' := ?_) #[true, true, true, true, false, true, false, false, false, false, false] rfl rfl (any_of HT_.out (by kernel_rfl)) (fun _ _ _ h => h) (Or.inl ⟨by rfl, ?_⟩) ?_ ?_
       rotate_left
       ·intro w'
        go_simp
        with_reducible rfl
       rotate_left
       ·refine ps ?_
        rfl
       refine pure_ (i := 6) (N := some 30) (v := ?_) (a' := ?_) #[true, true, true, true, false, true, true, false, false, false, false] rfl rfl (any_of HT_.out (by kernel_rfl)) (fun _ _ _ h => h) (Or.inl ⟨by rfl, ?_⟩) ?_ ?_
       rotate_left
       ·intro w'
        go_simp
        with_reducible rfl
       rotate_left
       ·refine ps ?_
        rfl
       refine take_ (i := 4) (N := some 28) (v := ?_) (a' := ?_) #[true, true, true, true, true, true, true, false, false, false, false] rfl rfl (take_ofW HT_.out HW_.out (by kernel_rfl)) (fun _ _ _ h => h) (Or.inl ⟨by rfl, ?_⟩) hHeld ?_ ?_
       rotate_left
       ·rintro w' ⟨s0, s1, s2, s3, s4, s5⟩
        go_simp
        with_reducible rfl
       rotate_left
       ·refine ps ?_
        rfl
       refine take_ (i := 7) (N := some 31) (v := ?_) (a' := ?_) #[true, true, true, true, true, true, true, true, false, false, false] rfl rfl (take_ofW HT_.out HW_.out (by kernel_rfl)) (fun _ _ _ h => h) (Or.inl ⟨by rfl, ?_⟩) hHeld ?_ ?_
       rotate_left
       ·rintro w' ⟨s0, s1, s2, s3, s4, s5⟩
        go_simp
        with_reducible rfl
       rotate_left
       ·refine ps ?_
        rfl
       refine one_ (i := 8) (N := some 32) #[true, true, true, true, true, true, true, true, true, false, false] rfl rfl (one_of HT_.out (by kernel_rfl)) (by decide) (fun K hK => ?_)
       refine goesF_ HOF.out #[.int .i64 t169, .int .i64 t176] (by rfl) rfl rfl rfl pm ?_
       with_reducible refine (IsOf.calls HOF.out t169 t176  a0  (ofsign a0) t208 _ ?side1 ?side2 A117.out).mono ?_
       (case side1 => refine pl ?_; exact KG.out)
       (case side2 => refine pl ?_; exact KH.out)
       rintro e w128 ⟨rfl, hb⟩
       refine ⟨_, rfl, ?_⟩
       replace KA := bb_ KA hb
       replace KB := bb_ KB hb
       replace KC := bb_ KC hb
       replace KD := bb_ KD hb
       replace KE := bb_ KE hb
       replace KF := bb_ KF hb
       replace KG := bb_ KG hb
       replace KH := bb_ KH hb
       replace HB := Aside0.mk (below_step HB.out hb)
       try clear hb
       refine hK.out _ _ ⟨bc_ KD.out 0 rfl, bc_ KD.out 1 rfl, bc_ KD.out 2 rfl, bc_ KE.out 0 rfl, bc_ KE.out 1 rfl, bc_ KE.out 2 rfl⟩ (fun hHeld => ?_)
       clear hK K
       refine norm_ (a' := ?_) ?_ ?_
       rotate_left
       ·show Act.put _ (some 32) _ = _
        refine ps ?_
        rfl
       refine pure_ (i := 9) (N := some 33) (v := ?_) (a' := ?_) #[true, true, true, true, true, true, true, true, true, true, false] rfl rfl (any_of HT_.out (by kernel_rfl)) (fun _ _ _ h => h) (Or.inl ⟨by rfl, ?_⟩) ?_ ?_
       rotate_left
       ·intro w'
        go_simp
        with_reducible rfl
       rotate_left
       ·refine ps ?_
        rfl
       refine one_ (i := 10) (N := none) #[true, true, true, true, true, true, true, true, true, true, true] rfl rfl (one_of HT_.out (by kernel_rfl)) (by decide) (fun K hK => ?_)
       have hs129 : w128.cell? ⟨gF, 2, none⟩ = some (.int .i64 0) := bc_ KF.out 2 rfl
       have hfs129 := blk_frozen KF.out 2
       have hns129_0 := NAF.out
       have hns129_1 := NBF.out
       have hns129_2 := NCF.out
       have hns129_3 := NDF.out
       have hns129_4 := NEF.out
       have hns129_6 := NGF.out
       have hns129_7 := NHF.out
       have hms129_0 := NFA.out
       have hms129_1 := NFB.out
       have hms129_2 := NFC.out
       have hms129_3 := NFD.out
       have hms129_4 := NFE.out
       have hms129_6 := NFG.out
       have hms129_7 := NFH.out
       refine skip_ (w1 := ?_) (by rfl) rfl ?_ ?_
       rotate_left
       ·go_simp
        rfl
       refine hK.out _ _ ⟨((cell_far (p := ⟨gF, _, none⟩) NDF.out _).trans (hHeld.1)), ((cell_far (p := ⟨gF, _, none⟩) NDF.out _).trans (hHeld.2.1)), ((cell_far (p := ⟨gF, _, none⟩) NDF.out _).trans (hHeld.2.2.1)), ((cell_far (p := ⟨gF, _, none⟩) NEF.out _).trans (hHeld.2.2.2.1)), ((cell_far (p := ⟨gF, _, none⟩) NEF.out _).trans (hHeld.2.2.2.2.1)), ((cell_far (p := ⟨gF, _, none⟩) NEF.out _).trans (hHeld.2.2.2.2.2))⟩ (fun hHeld => ?_)
       clear hK K
       refine done_ (done_of HT_.out (by kernel_rfl)) ?_
       have hnb130 := NFA.out
       have hnc130 := NAF.out
       have hnb131 := NFB.out
       have hnc131 := NBF.out
       have hnb132 := NFC.out
       have hnc132 := NCF.out
       have hnb133 := NFD.out
       have hnc133 := NDF.out
       have hnb134 := NFE.out
       have hnc134 := NEF.out
       have hnb135 := NFG.out
       have hnc135 := NGF.out
       have hnb136 := NFH.out
       have hnc136 := NHF.out
       have hcz137_0 : w128.cell? ⟨gF, 0, none⟩ = some (.int .i64 t206) := bc_ KF.out 0 rfl
       have hcz137_1 : w128.cell? ⟨gF, 1, none⟩ = some (.int .i64 t207) := bc_ KF.out 1 rfl
       have hcz137_2 : w128.cell? ⟨gF, 2, none⟩ = some (.int .i64 0) := bc_ KF.out 2 rfl
       have hfz137_0 := blk_frozen KF.out 0
       have hfz137_1 := blk_frozen KF.out 1
       have hfz137_2 := blk_frozen KF.out 2
       have hnb138 := NCA.out
       have hnc138 := NAC.out
       have hnb139 := NCB.out
       have hnc139 := NBC.out
       have hnb140 := NCD.out
       have hnc140 := NDC.out
       have hnb141 := NCE.out
       have hnc141 := NEC.out
       have hnb142 := NCG.out
       have hnc142 := NGC.out
       have hnb143 := NCH.out
       have hnc143 := NHC.out
       have hcz144_0 : w128.cell? ⟨gC, 0, none⟩ = some (.int .i64 0) := bc_ KC.out 0 rfl
       have hcz144_1 : w128.cell? ⟨gC, 1, none⟩ = some (.int .i64 0) := bc_ KC.out 1 rfl
       have hcz144_2 : w128.cell? ⟨gC, 2, none⟩ = some (.int .i64 0) := bc_ KC.out 2 rfl
       have hcz144_3 : w128.cell? ⟨gC, 3, none⟩ = some (.int .i64 0) := bc_ KC.out 3 rfl
       have hfz144_0 := blk_frozen KC.out 0
       have hfz144_1 := blk_frozen KC.out 1
       have hfz144_2 := blk_frozen KC.out 2
       have hfz144_3 := blk_frozen KC.out 3
       try go_wp2
       rw [rounds_succ]
       try go_wp2
       refine bodyPost_ret (results_cell_row rfl _ _ gC 32 #[.int .i64 t206, .int .i64 t207, .int .i64 t208, .int .i64 65535] (0, 0) _ rfl (by refine pl ?_; refine blk_put (cs := #[.int .i64 t206, .int .i64 t207, .int .i64 t208, .int .i64 0]) ?_ 3 _ rfl; refine pl ?_; refine blk_put (cs := #[.int .i64 t206, .int .i64 t207, .int .i64 0, .int .i64 0]) ?_ 2 _ rfl; refine pl ?_; refine blk_put (cs := #[.int .i64 t206, .int .i64 0, .int .i64 0, .int .i64 0]) ?_ 1 _ rfl; refine pl ?_; refine blk_put (cs := #[.int .i64 0, .int .i64 0, .int .i64 0, .int .i64 0]) ?_ 0 _ rfl; refine pl ?_; refine blk_far ?_ NCF.out _; refine pl ?_; exact KC.out) Try.underlying32 rfl (by kernel_rfl)) rfl ?_
       exact ⟨by first | rfl | (simp [errW_none, errW_some] <;> rfl) | (simp [*, errW_none, errW_some] <;> rfl), by repeat (first | (with_reducible first | exact HB.out | apply below_alloc | apply pw_below_drewN | apply below_drew1 | refine below_set ?_ GEA.out | refine below_set ?_ GEB.out | refine below_set ?_ GEC.out | refine below_set ?_ GED.out | refine below_set ?_ GEE.out | refine below_set ?_ GEF.out | refine below_set ?_ GEG.out | refine below_set ?_ GEH.out) | exact HB.out)⟩

end Go.Proofs.Ytnijapaaickifaa.I
