-- Written for this claim by a program of this session (handprint.py) that drives the kit's print. Not trusted: Lean checks it.
import Derived.Test.YtnijapaaickifaaI0
import Derived.Test.YtnijapaaickifaaI16
namespace Go.Proofs.Ytnijapaaickifaa.I
open Go.RowKit Go.Proofs.YtnijapaaickifaaW.PrintWords Go.Proofs.YtnijapaaickifaaW.PrintLast
attribute [local go_sem] max2_int min2_int max_two min_two max_three min_three max_four min_four
set_option linter.unusedVariables false
set_option linter.unusedSimpArgs false

/-! ### imageeditorref06_Fade: function 15 -/
def imageeditorref06_Fade.f (k : Nat) (a0_0 : Int) (a0_1 : Int) (a0_2 : Int) (a0_3 : Int) (a1 : Int) : Option (Int × Int × Int × Int) := (imageeditorref06_Limit.f a0_0 a0_1 a0_2 a0_3).bind fun bt315 => ((imageeditorref06_U.f a1).bind fun t319 => ((imageeditorref01_Div.f k (wrap64 (bt315.2.2.2 * t319)) 65535).bind fun t320 => (if t320 = 0 then (some (0, 0, 0, 0)) else (some (bt315.1, bt315.2.1, bt315.2.2.1, t320)))))
theorem imageeditorref06_Fade.mono : ∀ a0 a1 a2 a3 a4 k, LeO (imageeditorref06_Fade.f k a0 a1 a2 a3 a4) (imageeditorref06_Fade.f (k + 1) a0 a1 a2 a3 a4) := by
  intro a0 a1 a2 a3 a4 k
  unfold imageeditorref06_Fade.f
  repeat' first
      | (with_reducible exact imageeditorref01_Div.mono _ _ _)
      | (with_reducible exact LeO.refl _)
      | (with_reducible exact LeO.none _)
      | (with_reducible refine LeO.ite ?_ ?_)
      | (with_reducible refine LeO.bind ?_ (fun _ => ?_))
      | exact imageeditorref01_Div.mono _ _ _
      | exact LeO.none _
      | refine LeO.ite ?_ ?_
      | refine LeO.bind ?_ (fun _ => ?_)
def imageeditorref06_Fade.T2 : Bool × List (List Nat × List Nat) := (true, [([], []), ([0], [0]), ([], []), ([2], [2]), ([1, 3], [1, 3]), ([4, 3], [4]), ([0, 1, 2, 3, 4, 5], []), ([6, 5, 5, 0, 1, 2, 3, 4, 5], [5, 6])])
def imageeditorref06_Fade.B2 : List Nat := [0, 1, 0, 4, 15, 31, 63, 127]
theorem imageeditorref06_Fade.tab2 : rtab .any (opsOf Try.f15 2) = imageeditorref06_Fade.T2 := by kernel_rfl
theorem imageeditorref06_Fade.bits2 : waitsOk imageeditorref06_Fade.T2.2 imageeditorref06_Fade.B2 = true := by kernel_rfl
set_option maxHeartbeats 8000000 in
set_option maxRecDepth 100000 in
theorem imageeditorref06_Fade.calls (k : Nat) (a0_0 : Int) (a0_1 : Int) (a0_2 : Int) (a0_3 : Int) (a1 : Int) (r1 : Int) (r2 : Int) (r3 : Int) (r4 : Int) (w : World) (h : imageeditorref06_Fade.f k a0_0 a0_1 a0_2 a0_3 a1 = some (r1, r2, r3, r4)) :
    Calls Try.prog 15 #[.agg #[.int .i64 a0_0, .int .i64 a0_1, .int .i64 a0_2, .int .i64 a0_3], .int .i64 a1] w fun e w' => e = .returned (.agg #[.int .i64 r1, .int .i64 r2, .int .i64 r3, .int .i64 r4]) ∧ Below w.heap.size w w' := by
 have hu32 := Try.underlying32
 have HB := Aside0.mk (Below.refl w.heap.size w)
 have H : ((imageeditorref06_Limit.f a0_0 a0_1 a0_2 a0_3).bind fun bt315 => ((imageeditorref06_U.f a1).bind fun t319 => ((imageeditorref01_Div.f k (wrap64 (bt315.2.2.2 * t319)) 65535).bind fun t320 => (if t320 = 0 then (some (0, 0, 0, 0)) else (some (bt315.1, bt315.2.1, bt315.2.2.1, t320)))))) = some (r1, r2, r3, r4) := h
 clear h
 replace H := Option.bind_eq_some_iff.mp H
 obtain ⟨⟨t315, t316, t317, t318⟩, A30, H⟩ := H
 replace H : ((imageeditorref06_U.f a1).bind fun t319 => ((imageeditorref01_Div.f k (wrap64 (t318 * t319)) 65535).bind fun t320 => (if t320 = 0 then (some (0, 0, 0, 0)) else (some (t315, t316, t317, t320))))) = some (r1, r2, r3, r4) := H
 have A3 := Aside0.mk A30
 clear A30
 replace H := Option.bind_eq_some_iff.mp H
 obtain ⟨t319, A40, H⟩ := H
 replace H : ((imageeditorref01_Div.f k (wrap64 (t318 * t319)) 65535).bind fun t320 => (if t320 = 0 then (some (0, 0, 0, 0)) else (some (t315, t316, t317, t320)))) = some (r1, r2, r3, r4) := H
 have A4 := Aside0.mk A40
 clear A40
 replace H := Option.bind_eq_some_iff.mp H
 obtain ⟨t320, A50, H⟩ := H
 replace H : (if t320 = 0 then (some (0, 0, 0, 0)) else (some (t315, t316, t317, t320))) = some (r1, r2, r3, r4) := H
 have A5 := Aside0.mk A50
 clear A50
 by_cases c6 : t320 = 0
 ·rw [if_pos c6] at H
  have c6b0 : (t320 == 0) = true := beq_iff_eq.mpr c6
  have c6b1 : (t320 != 0) = false := bne_eq_false_iff_eq.mpr c6
  clear c6
  simp only [Option.some.injEq, Prod.mk.injEq] at H
  obtain ⟨rfl, rfl, rfl, rfl⟩ := H
  go_enter Try.func15, Try.ntmps15
  try go_wp2_with (first | ((with_reducible refine gate_dst (N := 2) rfl ?_); refine box_event ?hg (N := 2) ?hd (cs := #[.int .i64 a0_0, .int .i64 a0_1, .int .i64 a0_2, .int .i64 a0_3]) (t := 32) ?hr ?_; (case hd => rfl); (case hg => rfl); (case hr => first | (go_simp; done) | (go_simp; rfl)); intro gA hg w7 hbox hb; have KA := Aside0.mk hbox; have GWA := ge_ hg (pb HB.out); have GEA := ge_ hg (pb HB.out); replace HB := Aside0.mk (below_step (pb HB.out) hb); clear hb hbox hg) | ((with_reducible refine gate_dst (N := 4) rfl ?_); refine box_event ?hg (N := 4) ?hd (cs := #[.int .i64 0, .int .i64 0, .int .i64 0, .int .i64 0]) (t := 32) ?hr ?_; (case hd => rfl); (case hg => rfl); (case hr => first | (go_simp; done) | (go_simp; rfl)); intro gB hg w8 hbox hb; have c0_ := cp_ hb KA; have KB := Aside0.mk hbox; have GWB := ge_ hg (pb1 HB.out GEA.out); have GEB := ge_ hg (pb1 HB.out GEA.out); have NAB := nl_ hg c0_; have NBA := ng_ hg c0_; replace KA := bb_ c0_ hb; replace HB := Aside0.mk (below_step (pb1 HB.out GEA.out) hb); clear c0_; clear hb hbox hg; have hnb9 := NAB.out; have hnc9 := NBA.out; have hcz10_0 := ci_ KA 0 (.int .i64 a0_0); have hcz10_1 := ci_ KA 1 (.int .i64 a0_1); have hcz10_2 := ci_ KA 2 (.int .i64 a0_2); have hcz10_3 := ci_ KA 3 (.int .i64 a0_3); have hfz10_0 := blk_frozen KA.out 0; have hfz10_1 := blk_frozen KA.out 1; have hfz10_2 := blk_frozen KA.out 2; have hfz10_3 := blk_frozen KA.out 3) | ((with_reducible refine gate_callee (f := 30) rfl ?_); refine goesL_ (some 6) rfl rfl Try.func30 (by kernel_rfl) rfl #[.agg #[.int .i64 a0_0, .int .i64 a0_1, .int .i64 a0_2, .int .i64 a0_3]] rfl pm ?_; (with_reducible refine (imageeditorref06_Limit.calls a0_0 a0_1 a0_2 a0_3 t315 t316 t317 t318 _ A3.out).mono ?_); rintro e w11 ⟨rfl, hb⟩; refine ⟨_, rfl, ?_⟩; replace KA := bp_ KA hb; replace KB := bp_ KB hb; replace HB := Aside0.mk (below_step (pb2 HB.out GEA.out GEB.out) hb); (try clear hb); (try clear hb2); (try clear hk); (try clear hi); have hcz12_0 := ci_ KA 0 (.int .i64 a0_0); have hcz12_1 := ci_ KA 1 (.int .i64 a0_1); have hcz12_2 := ci_ KA 2 (.int .i64 a0_2); have hcz12_3 := ci_ KA 3 (.int .i64 a0_3); have hfz12_0 := blk_frozen KA.out 0; have hfz12_1 := blk_frozen KA.out 1; have hfz12_2 := blk_frozen KA.out 2; have hfz12_3 := blk_frozen KA.out 3))
  have n0_ : Aside0 (((((w11.setCell ⟨gA, 0, none⟩ (.int .i64 t315)).setCell ⟨gA, 1, none⟩ (.int .i64 t316)).setCell ⟨gA, 2, none⟩ (.int .i64 t317)).setCell ⟨gA, 3, none⟩ (.int .i64 t318)).heap[gA]? = some (.cells #[.int .i64 t315, .int .i64 t316, .int .i64 t317, .int .i64 t318] 32 (0, 0))) := ⟨by refine pl ?_; refine blk_put (cs := #[.int .i64 t315, .int .i64 t316, .int .i64 t317, .int .i64 a0_3]) ?_ 3 _ rfl; refine pl ?_; refine blk_put (cs := #[.int .i64 t315, .int .i64 t316, .int .i64 a0_2, .int .i64 a0_3]) ?_ 2 _ rfl; refine pl ?_; refine blk_put (cs := #[.int .i64 t315, .int .i64 a0_1, .int .i64 a0_2, .int .i64 a0_3]) ?_ 1 _ rfl; refine pl ?_; refine blk_put (cs := #[.int .i64 a0_0, .int .i64 a0_1, .int .i64 a0_2, .int .i64 a0_3]) ?_ 0 _ rfl; refine pl ?_; exact KA.out⟩
  have n1_ : Aside0 (((((w11.setCell ⟨gA, 0, none⟩ (.int .i64 t315)).setCell ⟨gA, 1, none⟩ (.int .i64 t316)).setCell ⟨gA, 2, none⟩ (.int .i64 t317)).setCell ⟨gA, 3, none⟩ (.int .i64 t318)).heap[gB]? = some (.cells #[.int .i64 0, .int .i64 0, .int .i64 0, .int .i64 0] 32 (0, 0))) := ⟨by refine pl ?_; refine blk_far ?_ NBA.out _; refine pl ?_; refine blk_far ?_ NBA.out _; refine pl ?_; refine blk_far ?_ NBA.out _; refine pl ?_; refine blk_far ?_ NBA.out _; refine pl ?_; exact KB.out⟩
  have n2_ : Aside0 (Below w.heap.size w ((((w11.setCell ⟨gA, 0, none⟩ (.int .i64 t315)).setCell ⟨gA, 1, none⟩ (.int .i64 t316)).setCell ⟨gA, 2, none⟩ (.int .i64 t317)).setCell ⟨gA, 3, none⟩ (.int .i64 t318))) := ⟨pb2 HB.out GEA.out GEB.out⟩
  (try clear KA)
  (try clear KB)
  (try clear HB)
  generalize ((((w11.setCell ⟨gA, 0, none⟩ (.int .i64 t315)).setCell ⟨gA, 1, none⟩ (.int .i64 t316)).setCell ⟨gA, 2, none⟩ (.int .i64 t317)).setCell ⟨gA, 3, none⟩ (.int .i64 t318)) = w13 at n0_ n1_ n2_ ⊢
  have KA := n0_
  have KB := n1_
  have HB := n2_
  clear n0_ n1_ n2_
  replace KA := Aside0.mk (blk_drew KA.out)
  replace KB := Aside0.mk (blk_drew KB.out)
  replace HB := Aside0.mk (below_drew1 HB.out)
  refine start_ (n := 8) (S := fun w' => w'.cell? ⟨gA, 0, none⟩ = some (.int .i64 t315) ∧ w'.cell? ⟨gA, 1, none⟩ = some (.int .i64 t316) ∧ w'.cell? ⟨gA, 2, none⟩ = some (.int .i64 t317) ∧ w'.cell? ⟨gA, 3, none⟩ = some (.int .i64 t318)) (ds := [7]) #[false, false, false, false, false, false, false, false] (by kernel_rfl) rfl rfl ⟨(blk_cell KA.out 0).trans rfl, (blk_cell KA.out 1).trans rfl, (blk_cell KA.out 2).trans rfl, (blk_cell KA.out 3).trans rfl⟩ (fun hHeld => ?_); refine with_tabW imageeditorref06_Fade.tab2 imageeditorref06_Fade.bits2 (fun HT_ HW_ => ?_)
  generalize w13.drew = w14 at KA KB HB hHeld ⊢
  refine pure_ (i := 0) (N := some 7) (v := ?_) (a' := ?_) #[true, false, false, false, false, false, false, false] rfl rfl (any_of HT_.out (by kernel_rfl)) (fun _ _ _ h => h) (Or.inl ⟨by rfl, ?_⟩) ?_ ?_
  rotate_left
  ·intro w'
   go_simp
   with_reducible rfl
  rotate_left
  ·refine ps ?_
   rfl
  refine pure_ (i := 2) (N := some 9) (v := ?_) (a' := ?_) #[true, false, true, false, false, false, false, false] rfl rfl (any_of HT_.out (by kernel_rfl)) (fun _ _ _ h => h) (Or.inl ⟨by rfl, ?_⟩) ?_ ?_
  rotate_left
  ·intro w'
   go_simp
   with_reducible rfl
  rotate_left
  ·refine ps ?_
   rfl
  refine take_ (i := 1) (N := some 8) (v := ?_) (a' := ?_) #[true, true, true, false, false, false, false, false] rfl rfl (take_ofW HT_.out HW_.out (by kernel_rfl)) (fun _ _ _ h => h) (Or.inl ⟨by rfl, ?_⟩) hHeld ?_ ?_
  rotate_left
  ·rintro w' ⟨s0, s1, s2, s3⟩
   go_simp
   with_reducible rfl
  rotate_left
  ·refine ps ?_
   rfl
  refine one_ (i := 3) (N := some 10) #[true, true, true, true, false, false, false, false] rfl rfl (one_of HT_.out (by kernel_rfl)) (by decide) (fun K hK => ?_)
  refine goes_ Try.func39 (by kernel_rfl) rfl #[.int .i64 a1] (by rfl) rfl rfl pm ?_
  with_reducible refine (imageeditorref06_U.calls a1 t319 _ A4.out).mono ?_
  rintro e w15 ⟨rfl, hb⟩
  refine ⟨_, rfl, ?_⟩
  replace KA := bb_ KA hb
  replace KB := bb_ KB hb
  replace HB := Aside0.mk (below_step HB.out hb)
  try clear hb
  refine hK.out _ _ ⟨(blk_cell KA.out 0).trans rfl, (blk_cell KA.out 1).trans rfl, (blk_cell KA.out 2).trans rfl, (blk_cell KA.out 3).trans rfl⟩ (fun hHeld => ?_)
  clear hK K
  refine norm_ (a' := ?_) ?_ ?_
  rotate_left
  ·show Act.put _ (some 10) _ = _
   refine ps ?_
   rfl
  refine pure_ (i := 4) (N := some 11) (v := ?_) (a' := ?_) #[true, true, true, true, true, false, false, false] rfl rfl (any_of HT_.out (by kernel_rfl)) (fun _ _ _ h => h) (Or.inl ⟨by rfl, ?_⟩) ?_ ?_
  rotate_left
  ·intro w'
   go_simp
   with_reducible rfl
  rotate_left
  ·refine ps ?_
   rfl
  refine one_ (i := 5) (N := some 12) #[true, true, true, true, true, true, false, false] rfl rfl (one_of HT_.out (by kernel_rfl)) (by decide) (fun K hK => ?_)
  refine goes_ Try.func38 (by kernel_rfl) rfl #[.int .i64 (wrap64 (t318 * t319)), .int .i64 65535] (by rfl) rfl rfl pm ?_
  with_reducible refine (imageeditorref01_Div.calls k (wrap64 (t318 * t319)) 65535 t320 _ A5.out).mono ?_
  rintro e w' ⟨rfl, ⟨nd, rfl⟩⟩
  refine ⟨_, rfl, ?_⟩
  refine hK.out _ _ ⟨(blk_cell KA.out 0).trans rfl, (blk_cell KA.out 1).trans rfl, (blk_cell KA.out 2).trans rfl, (blk_cell KA.out 3).trans rfl⟩ (fun hHeld => ?_)
  clear hK K
  refine norm_ (a' := ?_) ?_ ?_
  rotate_left
  ·show Act.put _ (some 12) _ = _
   refine ps ?_
   rfl
  refine pure_ (i := 6) (N := some 13) (v := ?_) (a' := ?_) #[true, true, true, true, true, true, true, false] rfl rfl (any_of HT_.out (by kernel_rfl)) (fun _ _ _ h => h) (Or.inl ⟨by rfl, ?_⟩) ?_ ?_
  rotate_left
  ·intro w'
   go_simp
   with_reducible rfl
  rotate_left
  ·refine ps ?_
   rfl
  refine last_ (i := 7) (N := none) #[true, true, true, true, true, true, true, true] rfl rfl (one_of HT_.out (by kernel_rfl)) (by decide) (fun K hK => ?_)
  have hs16 := ci_ KA 3 (.int .i64 t318)
  have hfs16 := blk_frozen KA.out 3
  have hns16_1 := NBA.out
  have hms16_1 := NAB.out
  refine skip_ (w1 := ?_) (by rfl) rfl ?_ ?_
  rotate_left
  ·go_simp
   rfl
  refine hK.out _ _ ?_
  clear hK K
  refine done_ (done_of HT_.out (by kernel_rfl)) ?_
  have hcz17_0 := ci_ KA 0 (.int .i64 t315)
  have hcz17_1 := ci_ KA 1 (.int .i64 t316)
  have hcz17_2 := ci_ KA 2 (.int .i64 t317)
  have hcz17_3 := ci_ KA 3 (.int .i64 t318)
  have hfz17_0 := blk_frozen KA.out 0
  have hfz17_1 := blk_frozen KA.out 1
  have hfz17_2 := blk_frozen KA.out 2
  have hfz17_3 := blk_frozen KA.out 3
  have hcz18_0 := ci_ KB 0 (.int .i64 0)
  have hcz18_1 := ci_ KB 1 (.int .i64 0)
  have hcz18_2 := ci_ KB 2 (.int .i64 0)
  have hcz18_3 := ci_ KB 3 (.int .i64 0)
  have hfz18_0 := blk_frozen KB.out 0
  have hfz18_1 := blk_frozen KB.out 1
  have hfz18_2 := blk_frozen KB.out 2
  have hfz18_3 := blk_frozen KB.out 3
  try go_wp2
  refine bodyPost_ret (results_cell_row rfl _ _ gB 32 #[.int .i64 0, .int .i64 0, .int .i64 0, .int .i64 0] (0, 0) _ rfl (by refine pl ?_; refine blk_put (cs := #[.int .i64 0, .int .i64 0, .int .i64 0, .int .i64 0]) ?_ 3 _ rfl; refine pl ?_; refine blk_put (cs := #[.int .i64 0, .int .i64 0, .int .i64 0, .int .i64 0]) ?_ 2 _ rfl; refine pl ?_; refine blk_put (cs := #[.int .i64 0, .int .i64 0, .int .i64 0, .int .i64 0]) ?_ 1 _ rfl; refine pl ?_; refine blk_put (cs := #[.int .i64 0, .int .i64 0, .int .i64 0, .int .i64 0]) ?_ 0 _ rfl; refine pl ?_; refine blk_far ?_ NBA.out _; refine pl ?_; exact KB.out) Try.underlying32 rfl (by kernel_rfl)) rfl ?_
  exact ⟨by first | rfl | (simp [errW_none, errW_some] <;> rfl) | (simp [*, errW_none, errW_some] <;> rfl), pb2 HB.out GEA.out GEB.out⟩
 ·rw [if_neg c6] at H
  have c6b0 : (t320 == 0) = false := beq_eq_false_iff_ne.mpr c6
  have c6b1 : (t320 != 0) = true := bne_iff_ne.mpr c6
  simp only [Option.some.injEq, Prod.mk.injEq] at H
  obtain ⟨rfl, rfl, rfl, rfl⟩ := H
  go_enter Try.func15, Try.ntmps15
  try go_wp2_with (first | ((with_reducible refine gate_dst (N := 2) rfl ?_); refine box_event ?hg (N := 2) ?hd (cs := #[.int .i64 a0_0, .int .i64 a0_1, .int .i64 a0_2, .int .i64 a0_3]) (t := 32) ?hr ?_; (case hd => rfl); (case hg => rfl); (case hr => first | (go_simp; done) | (go_simp; rfl)); intro gA hg w19 hbox hb; have KA := Aside0.mk hbox; have GWA := ge_ hg (pb HB.out); have GEA := ge_ hg (pb HB.out); replace HB := Aside0.mk (below_step (pb HB.out) hb); clear hb hbox hg) | ((with_reducible refine gate_dst (N := 4) rfl ?_); refine box_event ?hg (N := 4) ?hd (cs := #[.int .i64 0, .int .i64 0, .int .i64 0, .int .i64 0]) (t := 32) ?hr ?_; (case hd => rfl); (case hg => rfl); (case hr => first | (go_simp; done) | (go_simp; rfl)); intro gB hg w20 hbox hb; have c0_ := cp_ hb KA; have KB := Aside0.mk hbox; have GWB := ge_ hg (pb1 HB.out GEA.out); have GEB := ge_ hg (pb1 HB.out GEA.out); have NAB := nl_ hg c0_; have NBA := ng_ hg c0_; replace KA := bb_ c0_ hb; replace HB := Aside0.mk (below_step (pb1 HB.out GEA.out) hb); clear c0_; clear hb hbox hg; have hnb21 := NAB.out; have hnc21 := NBA.out; have hcz22_0 := ci_ KA 0 (.int .i64 a0_0); have hcz22_1 := ci_ KA 1 (.int .i64 a0_1); have hcz22_2 := ci_ KA 2 (.int .i64 a0_2); have hcz22_3 := ci_ KA 3 (.int .i64 a0_3); have hfz22_0 := blk_frozen KA.out 0; have hfz22_1 := blk_frozen KA.out 1; have hfz22_2 := blk_frozen KA.out 2; have hfz22_3 := blk_frozen KA.out 3) | ((with_reducible refine gate_callee (f := 30) rfl ?_); refine goesL_ (some 6) rfl rfl Try.func30 (by kernel_rfl) rfl #[.agg #[.int .i64 a0_0, .int .i64 a0_1, .int .i64 a0_2, .int .i64 a0_3]] rfl pm ?_; (with_reducible refine (imageeditorref06_Limit.calls a0_0 a0_1 a0_2 a0_3 t315 t316 t317 t318 _ A3.out).mono ?_); rintro e w23 ⟨rfl, hb⟩; refine ⟨_, rfl, ?_⟩; replace KA := bp_ KA hb; replace KB := bp_ KB hb; replace HB := Aside0.mk (below_step (pb2 HB.out GEA.out GEB.out) hb); (try clear hb); (try clear hb2); (try clear hk); (try clear hi); have hcz24_0 := ci_ KA 0 (.int .i64 a0_0); have hcz24_1 := ci_ KA 1 (.int .i64 a0_1); have hcz24_2 := ci_ KA 2 (.int .i64 a0_2); have hcz24_3 := ci_ KA 3 (.int .i64 a0_3); have hfz24_0 := blk_frozen KA.out 0; have hfz24_1 := blk_frozen KA.out 1; have hfz24_2 := blk_frozen KA.out 2; have hfz24_3 := blk_frozen KA.out 3))
  have n0_ : Aside0 (((((w23.setCell ⟨gA, 0, none⟩ (.int .i64 t315)).setCell ⟨gA, 1, none⟩ (.int .i64 t316)).setCell ⟨gA, 2, none⟩ (.int .i64 t317)).setCell ⟨gA, 3, none⟩ (.int .i64 t318)).heap[gA]? = some (.cells #[.int .i64 t315, .int .i64 t316, .int .i64 t317, .int .i64 t318] 32 (0, 0))) := ⟨by refine pl ?_; refine blk_put (cs := #[.int .i64 t315, .int .i64 t316, .int .i64 t317, .int .i64 a0_3]) ?_ 3 _ rfl; refine pl ?_; refine blk_put (cs := #[.int .i64 t315, .int .i64 t316, .int .i64 a0_2, .int .i64 a0_3]) ?_ 2 _ rfl; refine pl ?_; refine blk_put (cs := #[.int .i64 t315, .int .i64 a0_1, .int .i64 a0_2, .int .i64 a0_3]) ?_ 1 _ rfl; refine pl ?_; refine blk_put (cs := #[.int .i64 a0_0, .int .i64 a0_1, .int .i64 a0_2, .int .i64 a0_3]) ?_ 0 _ rfl; refine pl ?_; exact KA.out⟩
  have n1_ : Aside0 (((((w23.setCell ⟨gA, 0, none⟩ (.int .i64 t315)).setCell ⟨gA, 1, none⟩ (.int .i64 t316)).setCell ⟨gA, 2, none⟩ (.int .i64 t317)).setCell ⟨gA, 3, none⟩ (.int .i64 t318)).heap[gB]? = some (.cells #[.int .i64 0, .int .i64 0, .int .i64 0, .int .i64 0] 32 (0, 0))) := ⟨by refine pl ?_; refine blk_far ?_ NBA.out _; refine pl ?_; refine blk_far ?_ NBA.out _; refine pl ?_; refine blk_far ?_ NBA.out _; refine pl ?_; refine blk_far ?_ NBA.out _; refine pl ?_; exact KB.out⟩
  have n2_ : Aside0 (Below w.heap.size w ((((w23.setCell ⟨gA, 0, none⟩ (.int .i64 t315)).setCell ⟨gA, 1, none⟩ (.int .i64 t316)).setCell ⟨gA, 2, none⟩ (.int .i64 t317)).setCell ⟨gA, 3, none⟩ (.int .i64 t318))) := ⟨pb2 HB.out GEA.out GEB.out⟩
  (try clear KA)
  (try clear KB)
  (try clear HB)
  generalize ((((w23.setCell ⟨gA, 0, none⟩ (.int .i64 t315)).setCell ⟨gA, 1, none⟩ (.int .i64 t316)).setCell ⟨gA, 2, none⟩ (.int .i64 t317)).setCell ⟨gA, 3, none⟩ (.int .i64 t318)) = w25 at n0_ n1_ n2_ ⊢
  have KA := n0_
  have KB := n1_
  have HB := n2_
  clear n0_ n1_ n2_
  replace KA := Aside0.mk (blk_drew KA.out)
  replace KB := Aside0.mk (blk_drew KB.out)
  replace HB := Aside0.mk (below_drew1 HB.out)
  refine start_ (n := 8) (S := fun w' => w'.cell? ⟨gA, 0, none⟩ = some (.int .i64 t315) ∧ w'.cell? ⟨gA, 1, none⟩ = some (.int .i64 t316) ∧ w'.cell? ⟨gA, 2, none⟩ = some (.int .i64 t317) ∧ w'.cell? ⟨gA, 3, none⟩ = some (.int .i64 t318)) (ds := [7]) #[false, false, false, false, false, false, false, false] (by kernel_rfl) rfl rfl ⟨(blk_cell KA.out 0).trans rfl, (blk_cell KA.out 1).trans rfl, (blk_cell KA.out 2).trans rfl, (blk_cell KA.out 3).trans rfl⟩ (fun hHeld => ?_); refine with_tabW imageeditorref06_Fade.tab2 imageeditorref06_Fade.bits2 (fun HT_ HW_ => ?_)
  generalize w25.drew = w26 at KA KB HB hHeld ⊢
  refine pure_ (i := 0) (N := some 7) (v := ?_) (a' := ?_) #[true, false, false, false, false, false, false, false] rfl rfl (any_of HT_.out (by kernel_rfl)) (fun _ _ _ h => h) (Or.inl ⟨by rfl, ?_⟩) ?_ ?_
  rotate_left
  ·intro w'
   go_simp
   with_reducible rfl
  rotate_left
  ·refine ps ?_
   rfl
  refine pure_ (i := 2) (N := some 9) (v := ?_) (a' := ?_) #[true, false, true, false, false, false, false, false] rfl rfl (any_of HT_.out (by kernel_rfl)) (fun _ _ _ h => h) (Or.inl ⟨by rfl, ?_⟩) ?_ ?_
  rotate_left
  ·intro w'
   go_simp
   with_reducible rfl
  rotate_left
  ·refine ps ?_
   rfl
  refine take_ (i := 1) (N := some 8) (v := ?_) (a' := ?_) #[true, true, true, false, false, false, false, false] rfl rfl (take_ofW HT_.out HW_.out (by kernel_rfl)) (fun _ _ _ h => h) (Or.inl ⟨by rfl, ?_⟩) hHeld ?_ ?_
  rotate_left
  ·rintro w' ⟨s0, s1, s2, s3⟩
   go_simp
   with_reducible rfl
  rotate_left
  ·refine ps ?_
   rfl
  refine one_ (i := 3) (N := some 10) #[true, true, true, true, false, false, false, false] rfl rfl (one_of HT_.out (by kernel_rfl)) (by decide) (fun K hK => ?_)
  refine goes_ Try.func39 (by kernel_rfl) rfl #[.int .i64 a1] (by rfl) rfl rfl pm ?_
  with_reducible refine (imageeditorref06_U.calls a1 t319 _ A4.out).mono ?_
  rintro e w27 ⟨rfl, hb⟩
  refine ⟨_, rfl, ?_⟩
  replace KA := bb_ KA hb
  replace KB := bb_ KB hb
  replace HB := Aside0.mk (below_step HB.out hb)
  try clear hb
  refine hK.out _ _ ⟨(blk_cell KA.out 0).trans rfl, (blk_cell KA.out 1).trans rfl, (blk_cell KA.out 2).trans rfl, (blk_cell KA.out 3).trans rfl⟩ (fun hHeld => ?_)
  clear hK K
  refine norm_ (a' := ?_) ?_ ?_
  rotate_left
  ·show Act.put _ (some 10) _ = _
   refine ps ?_
   rfl
  refine pure_ (i := 4) (N := some 11) (v := ?_) (a' := ?_) #[true, true, true, true, true, false, false, false] rfl rfl (any_of HT_.out (by kernel_rfl)) (fun _ _ _ h => h) (Or.inl ⟨by rfl, ?_⟩) ?_ ?_
  rotate_left
  ·intro w'
   go_simp
   with_reducible rfl
  rotate_left
  ·refine ps ?_
   rfl
  refine one_ (i := 5) (N := some 12) #[true, true, true, true, true, true, false, false] rfl rfl (one_of HT_.out (by kernel_rfl)) (by decide) (fun K hK => ?_)
  refine goes_ Try.func38 (by kernel_rfl) rfl #[.int .i64 (wrap64 (t318 * t319)), .int .i64 65535] (by rfl) rfl rfl pm ?_
  with_reducible refine (imageeditorref01_Div.calls k (wrap64 (t318 * t319)) 65535 t320 _ A5.out).mono ?_
  rintro e w' ⟨rfl, ⟨nd, rfl⟩⟩
  refine ⟨_, rfl, ?_⟩
  refine hK.out _ _ ⟨(blk_cell KA.out 0).trans rfl, (blk_cell KA.out 1).trans rfl, (blk_cell KA.out 2).trans rfl, (blk_cell KA.out 3).trans rfl⟩ (fun hHeld => ?_)
  clear hK K
  refine norm_ (a' := ?_) ?_ ?_
  rotate_left
  ·show Act.put _ (some 12) _ = _
   refine ps ?_
   rfl
  refine pure_ (i := 6) (N := some 13) (v := ?_) (a' := ?_) #[true, true, true, true, true, true, true, false] rfl rfl (any_of HT_.out (by kernel_rfl)) (fun _ _ _ h => h) (Or.inl ⟨by rfl, ?_⟩) ?_ ?_
  rotate_left
  ·intro w'
   go_simp
   with_reducible rfl
  rotate_left
  ·refine ps ?_
   rfl
  refine last_ (i := 7) (N := none) #[true, true, true, true, true, true, true, true] rfl rfl (one_of HT_.out (by kernel_rfl)) (by decide) (fun K hK => ?_)
  have hs28 := ci_ KA 3 (.int .i64 t318)
  have hfs28 := blk_frozen KA.out 3
  have hns28_1 := NBA.out
  have hms28_1 := NAB.out
  refine skip_ (w1 := ?_) (by rfl) rfl ?_ ?_
  rotate_left
  ·go_simp
   rfl
  refine hK.out _ _ ?_
  clear hK K
  refine done_ (done_of HT_.out (by kernel_rfl)) ?_
  have hcz29_0 := ci_ KA 0 (.int .i64 t315)
  have hcz29_1 := ci_ KA 1 (.int .i64 t316)
  have hcz29_2 := ci_ KA 2 (.int .i64 t317)
  have hcz29_3 := ci_ KA 3 (.int .i64 t318)
  have hfz29_0 := blk_frozen KA.out 0
  have hfz29_1 := blk_frozen KA.out 1
  have hfz29_2 := blk_frozen KA.out 2
  have hfz29_3 := blk_frozen KA.out 3
  have hcz30_0 := ci_ KB 0 (.int .i64 0)
  have hcz30_1 := ci_ KB 1 (.int .i64 0)
  have hcz30_2 := ci_ KB 2 (.int .i64 0)
  have hcz30_3 := ci_ KB 3 (.int .i64 0)
  have hfz30_0 := blk_frozen KB.out 0
  have hfz30_1 := blk_frozen KB.out 1
  have hfz30_2 := blk_frozen KB.out 2
  have hfz30_3 := blk_frozen KB.out 3
  try go_wp2
  refine bodyPost_ret (results_cell_row rfl _ _ gB 32 #[.int .i64 t315, .int .i64 t316, .int .i64 t317, .int .i64 t320] (0, 0) _ rfl (by refine pl ?_; refine blk_put (cs := #[.int .i64 t315, .int .i64 t316, .int .i64 t317, .int .i64 0]) ?_ 3 _ rfl; refine pl ?_; refine blk_put (cs := #[.int .i64 t315, .int .i64 t316, .int .i64 0, .int .i64 0]) ?_ 2 _ rfl; refine pl ?_; refine blk_put (cs := #[.int .i64 t315, .int .i64 0, .int .i64 0, .int .i64 0]) ?_ 1 _ rfl; refine pl ?_; refine blk_put (cs := #[.int .i64 0, .int .i64 0, .int .i64 0, .int .i64 0]) ?_ 0 _ rfl; refine pl ?_; refine blk_far ?_ NBA.out _; refine pl ?_; exact KB.out) Try.underlying32 rfl (by kernel_rfl)) rfl ?_
  exact ⟨by first | rfl | (simp [errW_none, errW_some] <;> rfl) | (simp [*, errW_none, errW_some] <;> rfl), pb2 HB.out GEA.out GEB.out⟩

end Go.Proofs.Ytnijapaaickifaa.I
