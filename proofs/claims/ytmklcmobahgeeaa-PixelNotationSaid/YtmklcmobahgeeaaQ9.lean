-- Written for this claim by a program of this session (handprint.py) that drives the kit's print. Not trusted: Lean checks it.
import Derived.Test.YtmklcmobahgeeaaQ0
import Derived.Test.YtmklcmobahgeeaaQ8
namespace Go.Proofs.Ytmklcmobahgeeaa.Q
open Go.RowKit Go.Proofs.YtmklcmobahgeeaaW.PrintWords Go.Proofs.YtmklcmobahgeeaaW.PrintLast
attribute [local go_sem] max2_int min2_int max_two min_two max_three min_three max_four min_four
set_option linter.unusedVariables false
set_option linter.unusedSimpArgs false

/-! ### pixel_Parse_1: function 51 -/
def pixel_Parse_1.f (i : Int) (l : List Int) : Option Int := if 0 ≤ i ∧ 2 * i + 1 < (l.length : Int) ∧ l.length ≤ 1000 then pixel_From8.f (wrap64 (wrap64 (16 * rd l (2 * i)) + rd l (2 * i + 1))) else none
theorem num_Clamp.quiet (x lo hi : Int) (w : World) : Calls Try.prog 48 #[.int .i64 x, .int .i64 lo, .int .i64 hi] w fun e w' => e = .returned (.int .i64 (mn hi (mx x lo))) ∧ w' = w := by
  obtain ⟨m, hm⟩ : ∃ m, mx x lo = m := ⟨_, rfl⟩
  have hm_ : (if x < lo then lo else x) = m := hm
  obtain ⟨n, hn⟩ : ∃ n, mn hi m = n := ⟨_, rfl⟩
  have hn_ : (if m < hi then m else hi) = n := hn
  rw [hm, hn]
  clear hm hn
  go_enter Try.func48, Try.ntmps48
  go_wp2
  go_ret
  exact ⟨rfl, rfl⟩
theorem pixel_From8.quiet (x r : Int) (w : World) (h : pixel_From8.f x = some r) : Calls Try.prog 28 #[.int .i64 x] w fun e w' => e = .returned (.int .i64 r) ∧ w' = w := by
  have e : wrap64 (257 * mn 255 (mx x 0)) = r := Option.some.inj h
  subst e
  generalize hm : mn 255 (mx x 0) = m
  have H := Aside0.mk hm
  clear hm h
  go_enter Try.func28, Try.ntmps28
  go_wp2_with fail
  refine (num_Clamp.quiet x 0 255 w).mono ?_
  rintro e w' ⟨rfl, rfl⟩
  rw [H.out]
  go_wp2
  go_ret
  exact ⟨rfl, rfl⟩
set_option maxHeartbeats 1600000 in
theorem pixel_Parse_1.calls (i : Int) (A : Option Addr) (c : Nat) (l : List Int) (r : Int) {bd : Nat} (w : World) (hd : w.heap[bd]? = some (.cells #[.slice A l.length c] 43 (0, 0))) (hr : Kd.C (Kd.int .i64) w A l.length l) (hc : l.length ≤ c) (h : pixel_Parse_1.f i l = some r) :
    Calls Try.prog 51 #[.int .i64 i, .pointer (some ⟨bd, 0, none⟩)] w fun e w' => e = .returned (.int .i64 r) ∧ Below w.heap.size w w' := by
  unfold pixel_Parse_1.f at h
  split at h
  next hi =>
    obtain ⟨h0, h1, h2⟩ := hi
    obtain ⟨a1, e1, k1⟩ := Kd.at_int hr (2 * i) (by omega) (by omega)
    obtain ⟨a2, e2, k2⟩ := Kd.at_int hr (2 * i + 1) (by omega) (by omega)
    subst e1
    cases e2
    have hd' : w.cell? ⟨bd, 0, none⟩ = some (.slice (some a1) l.length c) := (blk_cell hd 0).trans rfl
    have H := Aside0.mk h
    clear h hd hr
    have p1 : IntKind.i64.wrap (2 * i) = 2 * i := IntWalk.i64_in _ (by omega)
    have p2 : IntKind.i64.wrap (2 * i + 1) = 2 * i + 1 := IntWalk.i64_in _ (by omega)
    have p3 : IntKind.i64.wrap (16 * rd l (2 * i)) = wrap64 (16 * rd l (2 * i)) := IntWalk.i64_left _
    have p4 : IntKind.i64.wrap (wrap64 (16 * rd l (2 * i)) + rd l (2 * i + 1)) = wrap64 (wrap64 (16 * rd l (2 * i)) + rd l (2 * i + 1)) := IntWalk.i64_left _
    have q1 : (0 : Int) ≤ 2 * i := by omega
    have q2 : 2 * i < (l.length : Int) := by omega
    have q3 : (0 : Int) ≤ 2 * i + 1 := by omega
    go_enter Try.func51, Try.ntmps51
    go_wp2_with fail
    go_quiet ((go_at_call 28; exact Calls.quiet_of_same (pixel_From8.quiet _ r _ H.out)))
    go_wp2
    go_ret
    exact ⟨rfl, pw_below_drewN (Below.refl _ _) _⟩
  next => cases h

/-! ### pixel_Parse: function 32 -/
mutual
def pixel_Parse.j0 : Nat → ByteArray → Int → Bool → Option (Int × Int × Int × Int × Int)
  | 0, _, _, _ => none
  | k + 1, x0, x4, x27 => if x27 = true then (some (0, 0, 0, 0, 4)) else (pixel_Parse.l0 k x0 x4 1 ([] : List Int))
def pixel_Parse.l0 : Nat → ByteArray → Int → Int → List Int → Option (Int × Int × Int × Int × Int)
  | 0, _, _, _, _ => none
  | k + 1, x0, x4, x6, x231000 => if x6 ≤ x4 then (if 0 ≤ x6 then (if x6 < (x0.size : Int) then ((pixel_digit.f k (bt x0 x6)).bind fun bt231 => (if bt231.2 = true then (if x231000.length < 17592186044416 then ((some (x231000 ++ [bt231.1] : List Int)).bind fun y233 => (if x4 = 3 then (if y233.length < 17592186044416 then (pixel_Parse.l0 k x0 x4 (wrap64 (x6 + 1)) (y233 ++ [bt231.1])) else (none)) else (pixel_Parse.l0 k x0 x4 (wrap64 (x6 + 1)) y233))) else (none)) else (some (0, 0, 0, 0, 4)))) else (none)) else (none)) else (if x4 = 8 then (pixel_Parse.j2 k x231000) else ((some (([15, 15] : List Int) : List Int)).bind fun y239 => (if x231000.length + y239.length < 17592186044416 then (pixel_Parse.j2 k (x231000 ++ y239)) else (none))))
def pixel_Parse.j2 : Nat → List Int → Option (Int × Int × Int × Int × Int)
  | 0, _ => none
  | k + 1, x231000 => (pixel_Parse_1.f 0 x231000).bind fun t245 => ((pixel_Parse_1.f 1 x231000).bind fun t246 => ((pixel_Parse_1.f 2 x231000).bind fun t247 => ((pixel_Parse_1.f 3 x231000).bind fun t248 => (some (t245, t246, t247, t248, 0)))))
end
def pixel_Parse.f (k : Nat) (a0 : ByteArray) : Option (Int × Int × Int × Int × Int) := if (wrap64 ((a0.size : Int) - 1)) = 3 then (if 0 < (a0.size : Int) then (pixel_Parse.j0 k a0 (wrap64 ((a0.size : Int) - 1)) ((bt a0 0) != 35)) else (none)) else (if (wrap64 ((a0.size : Int) - 1)) = 6 then (if 0 < (a0.size : Int) then (pixel_Parse.j0 k a0 (wrap64 ((a0.size : Int) - 1)) ((bt a0 0) != 35)) else (none)) else (if (wrap64 ((a0.size : Int) - 1)) = 8 then (if 0 < (a0.size : Int) then (pixel_Parse.j0 k a0 (wrap64 ((a0.size : Int) - 1)) ((bt a0 0) != 35)) else (none)) else (pixel_Parse.j0 k a0 (wrap64 ((a0.size : Int) - 1)) true)))
theorem pixel_Parse.mono_l : ∀ k, (∀ y0 y1 y2, LeO (pixel_Parse.j0 k y0 y1 y2) (pixel_Parse.j0 (k + 1) y0 y1 y2)) ∧ (∀ y0 y1 y2 y3, LeO (pixel_Parse.l0 k y0 y1 y2 y3) (pixel_Parse.l0 (k + 1) y0 y1 y2 y3)) ∧ (∀ y0, LeO (pixel_Parse.j2 k y0) (pixel_Parse.j2 (k + 1) y0))
  | 0 => ⟨fun _ _ _ r h => by simp [pixel_Parse.j0] at h, fun _ _ _ _ r h => by simp [pixel_Parse.l0] at h, fun _ r h => by simp [pixel_Parse.j2] at h⟩
  | k + 1 => by
    obtain ⟨ih0, ih1, ih2⟩ := pixel_Parse.mono_l k
    refine ⟨?_, ?_, ?_⟩
    · intro y0 y1 y2
      unfold pixel_Parse.j0
      repeat' first
      | (with_reducible exact ih0 _ _ _)
      | (with_reducible exact ih1 _ _ _ _)
      | (with_reducible exact ih2 _)
      | (with_reducible exact pixel_digit.mono _ _)
      | (with_reducible exact LeO.refl _)
      | (with_reducible exact LeO.none _)
      | (with_reducible refine LeO.ite ?_ ?_)
      | (with_reducible refine LeO.bind ?_ (fun _ => ?_))
      | exact ih0 _ _ _
      | exact ih1 _ _ _ _
      | exact ih2 _
      | exact pixel_digit.mono _ _
      | exact LeO.none _
      | refine LeO.ite ?_ ?_
      | refine LeO.bind ?_ (fun _ => ?_)
    · intro y0 y1 y2 y3
      unfold pixel_Parse.l0
      repeat' first
      | (with_reducible exact ih0 _ _ _)
      | (with_reducible exact ih1 _ _ _ _)
      | (with_reducible exact ih2 _)
      | (with_reducible exact pixel_digit.mono _ _)
      | (with_reducible exact LeO.refl _)
      | (with_reducible exact LeO.none _)
      | (with_reducible refine LeO.ite ?_ ?_)
      | (with_reducible refine LeO.bind ?_ (fun _ => ?_))
      | exact ih0 _ _ _
      | exact ih1 _ _ _ _
      | exact ih2 _
      | exact pixel_digit.mono _ _
      | exact LeO.none _
      | refine LeO.ite ?_ ?_
      | refine LeO.bind ?_ (fun _ => ?_)
    · intro y0
      unfold pixel_Parse.j2
      repeat' first
      | (with_reducible exact ih0 _ _ _)
      | (with_reducible exact ih1 _ _ _ _)
      | (with_reducible exact ih2 _)
      | (with_reducible exact pixel_digit.mono _ _)
      | (with_reducible exact LeO.refl _)
      | (with_reducible exact LeO.none _)
      | (with_reducible refine LeO.ite ?_ ?_)
      | (with_reducible refine LeO.bind ?_ (fun _ => ?_))
      | exact ih0 _ _ _
      | exact ih1 _ _ _ _
      | exact ih2 _
      | exact pixel_digit.mono _ _
      | exact LeO.none _
      | refine LeO.ite ?_ ?_
      | refine LeO.bind ?_ (fun _ => ?_)
theorem pixel_Parse.mono : ∀ a0 k, LeO (pixel_Parse.f k a0) (pixel_Parse.f (k + 1) a0) := by
  intro a0 k
  obtain ⟨ih0, ih1, ih2⟩ := pixel_Parse.mono_l k
  unfold pixel_Parse.f
  repeat' first
      | (with_reducible exact ih0 _ _ _)
      | (with_reducible exact ih1 _ _ _ _)
      | (with_reducible exact ih2 _)
      | (with_reducible exact pixel_digit.mono _ _)
      | (with_reducible exact LeO.refl _)
      | (with_reducible exact LeO.none _)
      | (with_reducible refine LeO.ite ?_ ?_)
      | (with_reducible refine LeO.bind ?_ (fun _ => ?_))
      | exact ih0 _ _ _
      | exact ih1 _ _ _ _
      | exact ih2 _
      | exact pixel_digit.mono _ _
      | exact LeO.none _
      | refine LeO.ite ?_ ?_
      | refine LeO.bind ?_ (fun _ => ?_)
set_option maxHeartbeats 8000000 in
set_option maxRecDepth 100000 in
theorem pixel_Parse.calls (k : Nat) (a0 : ByteArray) (r1 : Int) (r2 : Int) (r3 : Int) (r4 : Int) (r5 : Int) (w : World) (h : pixel_Parse.f k a0 = some (r1, r2, r3, r4, r5)) :
    Calls Try.prog 32 #[.string a0] w fun e w' => e = .returned (.tuple #[.agg #[.int .i64 r1, .int .i64 r2, .int .i64 r3, .int .i64 r4], .int .i64 r5]) ∧ Below w.heap.size w w' := by
  have hmf : ∀ (fn : Fn) (first cap : Array Value) (w : World), (Instr.makeFunc fn first cap).run Try.prog w = .ok (.func fn first cap) w := fun _ _ _ _ => rfl
  have hu23 := Try.underlying23
  have HB := Aside0.mk (Below.refl w.heap.size w)
  have H : (if (wrap64 ((a0.size : Int) - 1)) = 3 then (if 0 < (a0.size : Int) then (pixel_Parse.j0 k a0 (wrap64 ((a0.size : Int) - 1)) ((bt a0 0) != 35)) else (none)) else (if (wrap64 ((a0.size : Int) - 1)) = 6 then (if 0 < (a0.size : Int) then (pixel_Parse.j0 k a0 (wrap64 ((a0.size : Int) - 1)) ((bt a0 0) != 35)) else (none)) else (if (wrap64 ((a0.size : Int) - 1)) = 8 then (if 0 < (a0.size : Int) then (pixel_Parse.j0 k a0 (wrap64 ((a0.size : Int) - 1)) ((bt a0 0) != 35)) else (none)) else (pixel_Parse.j0 k a0 (wrap64 ((a0.size : Int) - 1)) true)))) = some (r1, r2, r3, r4, r5) := h
  clear h
  have HC2 := Aside0.mk H
  clear H
  go_enter Try.func32, Try.ntmps32
  go_upto_region 2 with (first | ((with_reducible refine gate_dst (N := 2) rfl ?_); refine box_event ?hg (N := 2) ?hd (cs := #[.int .i64 0, .int .i64 0, .int .i64 0, .int .i64 0]) (t := 23) ?hr ?_; (case hd => rfl); (case hg => rfl); (case hr => first | (go_simp; done) | (go_simp; rfl)); intro gb229 hg w3 hbox hb; have n0_ := Aside0.mk (below_step (by repeat (first | (with_reducible first | exact HB.out | apply below_alloc | apply pw_below_drewN | apply below_drew1) | exact HB.out)) hb); have n1_ := Aside0.mk (hbox); have n2_ := Aside0.mk ((by rw [hg]; exact (below_size (by repeat (first | (with_reducible first | exact HB.out | apply below_alloc | apply pw_below_drewN | apply below_drew1) | exact HB.out))) : w.heap.size ≤ gb229)); have n3_ := Aside0.mk ((by rw [hg]; exact (below_size (by repeat (first | (with_reducible first | exact HB.out | apply below_alloc | apply pw_below_drewN | apply below_drew1) | exact HB.out))) : w.heap.size ≤ gb229)); clear HB; have HB := n0_; have BK229 := n1_; have GW229 := n2_; have GE229 := n3_; clear n0_ n1_ n2_ n3_; clear hb hbox hg))
  (try simp only [Act.put, List.setIfInBounds_toArray, List.set_cons_zero, List.set_cons_succ])
  go_cut [27] (fun v27 wc => ∃ (kq : Nat) (x27_1 : Bool), v27 = .bool x27_1 ∧ Aside0 (pixel_Parse.j0 kq a0 (wrap64 ((a0.size : Int) - 1)) x27_1 = some (r1, r2, r3, r4, r5)) ∧ Aside0 (kq ≤ k) ∧ Aside0 (wc.heap[gb229]? = some (.cells #[.int .i64 0, .int .i64 0, .int .i64 0, .int .i64 0] 23 (0, 0))) ∧ Aside0 (Below w.heap.size w wc))
  case first =>
    have H := HC2.out
    clear HC2
    by_cases c4 : (wrap64 ((a0.size : Int) - 1)) = 3
    · rw [if_pos c4] at H
      have c4b0 : ((wrap64 ((a0.size : Int) - 1)) == 3) = true := beq_iff_eq.mpr c4
      have c4b1 : ((wrap64 ((a0.size : Int) - 1)) != 3) = false := bne_eq_false_iff_eq.mpr c4
      clear c4
      (first | rw [c4b0] | (simp only [i64_w, i32_w]; rw [c4b0]) | skip)
      by_cases c5 : 0 < (a0.size : Int)
      rotate_left
      · rw [if_neg c5] at H
        exact absurd H (by simp)
      rw [if_pos c5] at H
      have c5b0 : decide (0 < (a0.size : Int)) = true := decide_eq_true c5
      have c5b1 : decide (0 < a0.size) = true := decide_eq_true (by omega)
      clear c5
      have H' := Aside0.mk H
      clear H
      have p6 : 0 ≤ (0 : Int) := (by omega)
      have q6 : 0 < a0.size := (by have : (0 : Int) < (a0.size : Int) := of_decide_eq_true (by first | (with_reducible assumption) | assumption); omega)
      have hx6 : ∀ h : 0 < a0.size, ((a0[0]'h).toNat : Int) = bt a0 0 := bt_at a0 0
      clear p6
      have qi6 : (0 < (a0.size : Int)) = True := eq_true (of_decide_eq_true (by first | (with_reducible assumption) | assumption))
      replace q6 := eq_true q6
      go_wp2
      go_meet
      case rel => exact ⟨_, (((bt a0 0) != 35)), (by first | rfl | (simp; done) | (simp [*]; done)), H', ⟨by first | omega | exact Nat.le_refl _⟩, ⟨by (with_reducible repeat (first | refine blk_drewN ?_ _ | refine blk_drew ?_ | refine blk_alloc ?_ _)); exact BK229.out⟩, ⟨by repeat (first | (with_reducible first | exact HB.out | apply below_alloc | apply pw_below_drewN | apply below_drew1 | refine below_set ?_ GE229.out) | exact HB.out)⟩⟩
    · rw [if_neg c4] at H
      have c4b0 : ((wrap64 ((a0.size : Int) - 1)) == 3) = false := beq_eq_false_iff_ne.mpr c4
      have c4b1 : ((wrap64 ((a0.size : Int) - 1)) != 3) = true := bne_iff_ne.mpr c4
      (first | rw [c4b0] | (simp only [i64_w, i32_w]; rw [c4b0]) | skip)
      by_cases c7 : (wrap64 ((a0.size : Int) - 1)) = 6
      · rw [if_pos c7] at H
        have c7b0 : ((wrap64 ((a0.size : Int) - 1)) == 6) = true := beq_iff_eq.mpr c7
        have c7b1 : ((wrap64 ((a0.size : Int) - 1)) != 6) = false := bne_eq_false_iff_eq.mpr c7
        clear c7
        by_cases c8 : 0 < (a0.size : Int)
        rotate_left
        · rw [if_neg c8] at H
          exact absurd H (by simp)
        rw [if_pos c8] at H
        have c8b0 : decide (0 < (a0.size : Int)) = true := decide_eq_true c8
        have c8b1 : decide (0 < a0.size) = true := decide_eq_true (by omega)
        clear c8
        have H' := Aside0.mk H
        clear H
        have p9 : 0 ≤ (0 : Int) := (by omega)
        have q9 : 0 < a0.size := (by have : (0 : Int) < (a0.size : Int) := of_decide_eq_true (by first | (with_reducible assumption) | assumption); omega)
        have hx9 : ∀ h : 0 < a0.size, ((a0[0]'h).toNat : Int) = bt a0 0 := bt_at a0 0
        clear p9
        have qi9 : (0 < (a0.size : Int)) = True := eq_true (of_decide_eq_true (by first | (with_reducible assumption) | assumption))
        replace q9 := eq_true q9
        go_wp2
        go_meet
        case rel => exact ⟨_, (((bt a0 0) != 35)), (by first | rfl | (simp; done) | (simp [*]; done)), H', ⟨by first | omega | exact Nat.le_refl _⟩, ⟨by (with_reducible repeat (first | refine blk_drewN ?_ _ | refine blk_drew ?_ | refine blk_alloc ?_ _)); exact BK229.out⟩, ⟨by repeat (first | (with_reducible first | exact HB.out | apply below_alloc | apply pw_below_drewN | apply below_drew1 | refine below_set ?_ GE229.out) | exact HB.out)⟩⟩
      · rw [if_neg c7] at H
        have c7b0 : ((wrap64 ((a0.size : Int) - 1)) == 6) = false := beq_eq_false_iff_ne.mpr c7
        have c7b1 : ((wrap64 ((a0.size : Int) - 1)) != 6) = true := bne_iff_ne.mpr c7
        by_cases c10 : (wrap64 ((a0.size : Int) - 1)) = 8
        · rw [if_pos c10] at H
          have c10b0 : ((wrap64 ((a0.size : Int) - 1)) == 8) = true := beq_iff_eq.mpr c10
          have c10b1 : ((wrap64 ((a0.size : Int) - 1)) != 8) = false := bne_eq_false_iff_eq.mpr c10
          clear c10
          by_cases c11 : 0 < (a0.size : Int)
          rotate_left
          · rw [if_neg c11] at H
            exact absurd H (by simp)
          rw [if_pos c11] at H
          have c11b0 : decide (0 < (a0.size : Int)) = true := decide_eq_true c11
          have c11b1 : decide (0 < a0.size) = true := decide_eq_true (by omega)
          clear c11
          have H' := Aside0.mk H
          clear H
          have p12 : 0 ≤ (0 : Int) := (by omega)
          have q12 : 0 < a0.size := (by have : (0 : Int) < (a0.size : Int) := of_decide_eq_true (by first | (with_reducible assumption) | assumption); omega)
          have hx12 : ∀ h : 0 < a0.size, ((a0[0]'h).toNat : Int) = bt a0 0 := bt_at a0 0
          clear p12
          have qi12 : (0 < (a0.size : Int)) = True := eq_true (of_decide_eq_true (by first | (with_reducible assumption) | assumption))
          replace q12 := eq_true q12
          go_wp2
          go_meet
          case rel => exact ⟨_, (((bt a0 0) != 35)), (by first | rfl | (simp; done) | (simp [*]; done)), H', ⟨by first | omega | exact Nat.le_refl _⟩, ⟨by (with_reducible repeat (first | refine blk_drewN ?_ _ | refine blk_drew ?_ | refine blk_alloc ?_ _)); exact BK229.out⟩, ⟨by repeat (first | (with_reducible first | exact HB.out | apply below_alloc | apply pw_below_drewN | apply below_drew1 | refine below_set ?_ GE229.out) | exact HB.out)⟩⟩
        · rw [if_neg c10] at H
          have c10b0 : ((wrap64 ((a0.size : Int) - 1)) == 8) = false := beq_eq_false_iff_ne.mpr c10
          have c10b1 : ((wrap64 ((a0.size : Int) - 1)) != 8) = true := bne_iff_ne.mpr c10
          have H' := Aside0.mk H
          clear H
          go_wp2
          go_meet
          case rel => exact ⟨_, (true), (by first | rfl | (simp; done) | (simp [*]; done)), H', ⟨by first | omega | exact Nat.le_refl _⟩, ⟨by (with_reducible repeat (first | refine blk_drewN ?_ _ | refine blk_drew ?_ | refine blk_alloc ?_ _)); exact BK229.out⟩, ⟨by repeat (first | (with_reducible first | exact HB.out | apply below_alloc | apply pw_below_drewN | apply below_drew1 | refine below_set ?_ GE229.out) | exact HB.out)⟩⟩
  case rest =>
    clear HC2
    try clear c1
    try clear p1
    try clear q1
    try clear hx1
    try clear qi1
    try clear p2
    try clear c3
    try clear c4
    try clear c4b0
    try clear c4b1
    try clear c5
    try clear c5b0
    try clear c5b1
    try clear p6
    try clear q6
    try clear hx6
    try clear qi6
    try clear c7
    try clear c7b0
    try clear c7b1
    try clear c8
    try clear c8b0
    try clear c8b1
    try clear p9
    try clear q9
    try clear hx9
    try clear qi9
    try clear c10
    try clear c10b0
    try clear c10b1
    try clear c11
    try clear c11b0
    try clear c11b1
    try clear p12
    try clear q12
    try clear hx12
    try clear qi12
    try clear p12
    try clear p6
    try clear p9
    try clear q12
    try clear q6
    try clear q9
    obtain ⟨kq, x27_1, rfl, HA, HJ1, BK229, HB⟩ := hcut
    cases kq with
    | zero => exact absurd HA.out (by simp [pixel_Parse.j0])
    | succ kj1 =>
      have H := HA.out
      clear HA
      simp only [pixel_Parse.j0] at H
      by_cases c13 : x27_1 = true
      · subst c13
        have H1 : (some (0, 0, 0, 0, 4)) = some (r1, r2, r3, r4, r5) := by rw [if_pos rfl] at H; exact H
        clear H
        have H := H1
        clear H1
        simp only [Option.some.injEq, Prod.mk.injEq] at H
        obtain ⟨rfl, rfl, rfl, rfl, rfl⟩ := H
        have hcz14_0 : wc.cell? ⟨gb229, 0, none⟩ = some (.int .i64 0) := (blk_cell BK229.out 0).trans rfl
        have hcz14_1 : wc.cell? ⟨gb229, 1, none⟩ = some (.int .i64 0) := (blk_cell BK229.out 1).trans rfl
        have hcz14_2 : wc.cell? ⟨gb229, 2, none⟩ = some (.int .i64 0) := (blk_cell BK229.out 2).trans rfl
        have hcz14_3 : wc.cell? ⟨gb229, 3, none⟩ = some (.int .i64 0) := (blk_cell BK229.out 3).trans rfl
        have hfz14_0 := blk_frozen BK229.out 0
        have hfz14_1 := blk_frozen BK229.out 1
        have hfz14_2 := blk_frozen BK229.out 2
        have hfz14_3 := blk_frozen BK229.out 3
        go_wp2
        refine bodyPost_ret (results_ct rfl _ _ gb229 23 #[.int .i64 0, .int .i64 0, .int .i64 0, .int .i64 0] (0, 0) _ rfl (by (with_reducible repeat (first | refine blk_drewN ?_ _ | refine blk_drew ?_ | refine blk_alloc ?_ _)); refine blk_put (cs := #[.int .i64 0, .int .i64 0, .int .i64 0, .int .i64 0]) ?_ 3 _ rfl; (with_reducible repeat (first | refine blk_drewN ?_ _ | refine blk_drew ?_ | refine blk_alloc ?_ _)); refine blk_put (cs := #[.int .i64 0, .int .i64 0, .int .i64 0, .int .i64 0]) ?_ 2 _ rfl; (with_reducible repeat (first | refine blk_drewN ?_ _ | refine blk_drew ?_ | refine blk_alloc ?_ _)); refine blk_put (cs := #[.int .i64 0, .int .i64 0, .int .i64 0, .int .i64 0]) ?_ 1 _ rfl; (with_reducible repeat (first | refine blk_drewN ?_ _ | refine blk_drew ?_ | refine blk_alloc ?_ _)); refine blk_put (cs := #[.int .i64 0, .int .i64 0, .int .i64 0, .int .i64 0]) ?_ 0 _ rfl; (with_reducible repeat (first | refine blk_drewN ?_ _ | refine blk_drew ?_ | refine blk_alloc ?_ _)); exact BK229.out) Try.underlying23 rfl (by kernel_rfl)) rfl ?_
        exact ⟨by first | rfl | (simp [errW_none, errW_some] <;> rfl) | (simp [*, errW_none, errW_some] <;> rfl), by repeat (first | (with_reducible first | exact HB.out | apply below_alloc | apply pw_below_drewN | apply below_drew1 | refine below_set ?_ GE229.out) | exact HB.out)⟩
      · replace c13 := Bool.eq_false_iff.mpr c13
        subst c13
        have H1 : (pixel_Parse.l0 kj1 a0 (wrap64 ((a0.size : Int) - 1)) 1 ([] : List Int)) = some (r1, r2, r3, r4, r5) := by rw [if_neg (show ¬ (false = true) by decide)] at H; exact H
        clear H
        have H := H1
        clear H1
        have H' := Aside0.mk H
        clear H
        go_wp2_with (first | ((with_reducible refine gate_dst (N := 5) rfl ?_); refine box_event ?hg (N := 5) ?hd (cs := #[.slice none 0 0]) (t := 43) ?hr ?_; (case hd => rfl); (case hg => rfl); (case hr => first | (go_simp; done) | (go_simp; rfl)); intro gb230 hg w15 hbox hb; have n0_ := Aside0.mk (blk_below (g := gb229) (o := .cells #[.int .i64 0, .int .i64 0, .int .i64 0, .int .i64 0] 23 (0, 0)) (by (with_reducible repeat (first | refine blk_drewN ?_ _ | refine blk_drew ?_ | refine blk_alloc ?_ _)); exact BK229.out) hb); have n1_ := Aside0.mk (below_step (by repeat (first | (with_reducible first | exact HB.out | apply below_alloc | apply pw_below_drewN | apply below_drew1 | refine below_set ?_ GE229.out) | exact HB.out)) hb); have n2_ := Aside0.mk (hbox); have n3_ := Aside0.mk ((by rw [hg]; exact (below_size (by repeat (first | (with_reducible first | exact HB.out | apply below_alloc | apply pw_below_drewN | apply below_drew1 | refine below_set ?_ GE229.out) | exact HB.out))) : w.heap.size ≤ gb230)); have n4_ := Aside0.mk ((by rw [hg]; exact (below_size (by repeat (first | (with_reducible first | exact HB.out | apply below_alloc | apply pw_below_drewN | apply below_drew1 | refine below_set ?_ GE229.out) | exact HB.out))) : w.heap.size ≤ gb230)); have n5_ := Aside0.mk ((by rw [hg]; exact Nat.ne_of_lt (blk_lt (g := gb229) (o := .cells #[.int .i64 0, .int .i64 0, .int .i64 0, .int .i64 0] 23 (0, 0)) (by (with_reducible repeat (first | refine blk_drewN ?_ _ | refine blk_drew ?_ | refine blk_alloc ?_ _)); exact BK229.out)) : gb229 ≠ gb230)); have n6_ := Aside0.mk ((by rw [hg]; exact Nat.ne_of_gt (blk_lt (g := gb229) (o := .cells #[.int .i64 0, .int .i64 0, .int .i64 0, .int .i64 0] 23 (0, 0)) (by (with_reducible repeat (first | refine blk_drewN ?_ _ | refine blk_drew ?_ | refine blk_alloc ?_ _)); exact BK229.out)) : gb230 ≠ gb229)); clear BK229; clear HB; have BK229 := n0_; have HB := n1_; have BK230 := n2_; have GW230 := n3_; have GE230 := n4_; have NB229_230 := n5_; have NB230_229 := n6_; clear n0_ n1_ n2_ n3_ n4_ n5_ n6_; clear hb hbox hg))
        go_loopg [6] kj1 (fun kq v6 w' => ∃ (x6_2 : Int) (x230000_2 : Int) (x230001_2 : Int) (x230002_2 : Int) (x230003_2 : Int) (x231000_2 : List Int) (u231000 : Value), v6 = .int .i64 x6_2 ∧ Aside0 (pixel_Parse.l0 kq a0 (wrap64 ((a0.size : Int) - 1)) x6_2 x231000_2 = some (r1, r2, r3, r4, r5)) ∧ Aside0 (kq ≤ kj1) ∧ Aside0 (Kd.R (Kd.int .i64) 3 w' w.heap.size (fun _ => True) u231000 x231000_2) ∧ Aside0 (w'.heap[gb229]? = some (.cells #[.int .i64 x230000_2, .int .i64 x230001_2, .int .i64 x230002_2, .int .i64 x230003_2] 23 (0, 0))) ∧ Aside0 (w'.heap[gb230]? = some (.cells #[u231000] 43 (0, 0))) ∧ Aside0 (Below w.heap.size w w'))
        case atStart => exact ⟨(1), (0), (0), (0), (0), (([] : List Int)), (.slice none 0 0), (by first | rfl | (simp; done) | (simp [*]; done)), H', ⟨Nat.le_refl _⟩, ⟨by first | exact Kd.R_nil _ _ _ _ _ | exact Kd.N_nil _ _ _ _ _ | exact Kd.V_nil _ _ _ _ _ | exact Kd.Q_nil _ _ _ _ _ | exact Kd.S_nil _ _ _ _ _⟩, ⟨by (with_reducible repeat (first | refine blk_drewN ?_ _ | refine blk_drew ?_ | refine blk_alloc ?_ _)); exact BK229.out⟩, ⟨by (with_reducible repeat (first | refine blk_drewN ?_ _ | refine blk_drew ?_ | refine blk_alloc ?_ _)); exact BK230.out⟩, ⟨by repeat (first | (with_reducible first | exact HB.out | apply below_alloc | apply pw_below_drewN | apply below_drew1 | refine below_set ?_ GE229.out | refine below_set ?_ GE230.out) | exact HB.out)⟩⟩
        case round =>
          clear H'
          try clear c1
          try clear p1
          try clear q1
          try clear hx1
          try clear qi1
          try clear p2
          try clear c3
          try clear c4
          try clear c4b0
          try clear c4b1
          try clear c5
          try clear c5b0
          try clear c5b1
          try clear p6
          try clear q6
          try clear hx6
          try clear qi6
          try clear c7
          try clear c7b0
          try clear c7b1
          try clear c8
          try clear c8b0
          try clear c8b1
          try clear p9
          try clear q9
          try clear hx9
          try clear qi9
          try clear c10
          try clear c10b0
          try clear c10b1
          try clear c11
          try clear c11b0
          try clear c11b1
          try clear p12
          try clear q12
          try clear hx12
          try clear qi12
          try clear c13
          try clear hcz14_0
          try clear hcz14_1
          try clear hcz14_2
          try clear hcz14_3
          try clear hfz14_0
          try clear hfz14_1
          try clear hfz14_2
          try clear hfz14_3
          try clear p1
          try clear p12
          try clear p2
          try clear p6
          try clear p9
          try clear q1
          try clear q12
          try clear q6
          try clear q9
          obtain ⟨x6_2, x230000_2, x230001_2, x230002_2, x230003_2, x231000_2, u231000, rfl, HA, HK2, HO_231000, BK229, BK230, HB⟩ := hrel
          cases gk with
          | zero => exact absurd HA.out (by simp [pixel_Parse.l0])
          | succ k2 =>
            have H := HA.out
            clear HA
            simp only [pixel_Parse.l0] at H
            by_cases c16 : x6_2 ≤ (wrap64 ((a0.size : Int) - 1))
            · rw [if_pos c16] at H
              have c16b0 : decide (x6_2 ≤ (wrap64 ((a0.size : Int) - 1))) = true := decide_eq_true c16
              clear c16
              by_cases c17 : 0 ≤ x6_2
              rotate_left
              · rw [if_neg c17] at H
                exact absurd H (by simp)
              rw [if_pos c17] at H
              have c17b0 : decide (0 ≤ x6_2) = true := decide_eq_true c17
              clear c17
              by_cases c18 : x6_2 < (a0.size : Int)
              rotate_left
              · rw [if_neg c18] at H
                exact absurd H (by simp)
              rw [if_pos c18] at H
              have c18b0 : decide (x6_2 < (a0.size : Int)) = true := decide_eq_true c18
              clear c18
              replace H := Option.bind_eq_some_iff.mp H
              obtain ⟨⟨t231, t232⟩, A200, H⟩ := H
              replace H : (if t232 = true then (if x231000_2.length < 17592186044416 then ((some (x231000_2 ++ [t231] : List Int)).bind fun y233 => (if (wrap64 ((a0.size : Int) - 1)) = 3 then (if y233.length < 17592186044416 then (pixel_Parse.l0 k2 a0 (wrap64 ((a0.size : Int) - 1)) (wrap64 (x6_2 + 1)) (y233 ++ [t231])) else (none)) else (pixel_Parse.l0 k2 a0 (wrap64 ((a0.size : Int) - 1)) (wrap64 (x6_2 + 1)) y233))) else (none)) else (some (0, 0, 0, 0, 4))) = some (r1, r2, r3, r4, r5) := H
              have A20 := Aside0.mk A200
              clear A200
              by_cases c21 : t232 = true
              · subst c21
                have H1 : (if x231000_2.length < 17592186044416 then ((some (x231000_2 ++ [t231] : List Int)).bind fun y233 => (if (wrap64 ((a0.size : Int) - 1)) = 3 then (if y233.length < 17592186044416 then (pixel_Parse.l0 k2 a0 (wrap64 ((a0.size : Int) - 1)) (wrap64 (x6_2 + 1)) (y233 ++ [t231])) else (none)) else (pixel_Parse.l0 k2 a0 (wrap64 ((a0.size : Int) - 1)) (wrap64 (x6_2 + 1)) y233))) else (none)) = some (r1, r2, r3, r4, r5) := by rw [if_pos rfl] at H; exact H
                clear H
                have H := H1
                clear H1
                by_cases c22 : x231000_2.length < 17592186044416
                rotate_left
                · rw [if_neg c22] at H
                  exact absurd H (by simp)
                rw [if_pos c22] at H
                have LMc22 := Aside0.mk c22
                clear c22
                obtain ⟨y233, hy233⟩ : ∃ y_ : List Int, y_ = (x231000_2 ++ [t231]) := ⟨_, rfl⟩
                replace H : (if (wrap64 ((a0.size : Int) - 1)) = 3 then (if y233.length < 17592186044416 then (pixel_Parse.l0 k2 a0 (wrap64 ((a0.size : Int) - 1)) (wrap64 (x6_2 + 1)) (y233 ++ [t231])) else (none)) else (pixel_Parse.l0 k2 a0 (wrap64 ((a0.size : Int) - 1)) (wrap64 (x6_2 + 1)) y233)) = some (r1, r2, r3, r4, r5) := by first | (rw [hy233]; with_reducible exact H) | (have H2_ := (Option.bind_some _ _).symm.trans H; rw [hy233]; with_reducible exact H2_) | (have H2_ := (Option.bind_some _ _).symm.trans H; with_reducible exact H2_) | with_reducible exact H | (rw [hy233]; exact H) | exact H
                have Ny233 := Aside0.mk hy233
                clear hy233
                by_cases c23 : (wrap64 ((a0.size : Int) - 1)) = 3
                · rw [if_pos c23] at H
                  have c23b0 : ((wrap64 ((a0.size : Int) - 1)) == 3) = true := beq_iff_eq.mpr c23
                  have c23b1 : ((wrap64 ((a0.size : Int) - 1)) != 3) = false := bne_eq_false_iff_eq.mpr c23
                  clear c23
                  by_cases c24 : y233.length < 17592186044416
                  rotate_left
                  · rw [if_neg c24] at H
                    exact absurd H (by simp)
                  rw [if_pos c24] at H
                  have LMc24 := Aside0.mk c24
                  clear c24
                  obtain ⟨y236, hy236⟩ : ∃ y_ : List Int, y_ = (y233 ++ [t231]) := ⟨_, rfl⟩
                  replace H : (pixel_Parse.l0 k2 a0 (wrap64 ((a0.size : Int) - 1)) (wrap64 (x6_2 + 1)) y236) = some (r1, r2, r3, r4, r5) := by first | (rw [hy236]; with_reducible exact H) | (have H2_ := (Option.bind_some _ _).symm.trans H; rw [hy236]; with_reducible exact H2_) | (have H2_ := (Option.bind_some _ _).symm.trans H; with_reducible exact H2_) | with_reducible exact H | (rw [hy236]; exact H) | exact H
                  have Ny236 := Aside0.mk hy236
                  clear hy236
                  have H' := Aside0.mk H
                  clear H
                  have p19 : 0 ≤ (x6_2 : Int) := of_decide_eq_true (by first | (with_reducible assumption) | assumption)
                  have q19 : x6_2 < (a0.size : Int) := of_decide_eq_true (by first | (with_reducible assumption) | assumption)
                  have hx19 := bt_at a0 x6_2
                  replace p19 := eq_true p19
                  replace q19 := eq_true q19
                  go_wp2_with (first | ((with_reducible refine gate_callee (f := 50) rfl ?_); refine goesL_ (some 38) rfl rfl Try.func50 (by kernel_rfl) rfl #[.int .u8 (bt a0 x6_2)] rfl (by (try simp only [List.map_toArray, List.map_cons, List.map_nil]); first | done | rfl | (simp only [List.length_drop, List.length_take]; rfl)) ?_; (with_reducible refine (pixel_digit.calls k2 (bt a0 x6_2) t231 true _ A20.out).mono ?_); rintro e w' ⟨rfl, ⟨nd, rfl⟩⟩; refine ⟨_, rfl, ?_⟩; (try (rw [drewN_self wr]; generalize hq_ : World.drewN wr _ = wr; have n0_ : Aside0 (Kd.R (Kd.int .i64) 3 wr w.heap.size (fun _ => True) u231000 x231000_2) := ⟨by rw [← hq_]; exact (by (with_reducible repeat (first | apply Kd.R_alloc | apply Kd.R_drewN | apply Kd.R_drew)); exact HO_231000.out)⟩; have n1_ : Aside0 (wr.heap[gb229]? = some (.cells #[.int .i64 x230000_2, .int .i64 x230001_2, .int .i64 x230002_2, .int .i64 x230003_2] 23 (0, 0))) := ⟨by rw [← hq_]; exact (by (with_reducible repeat (first | refine blk_drewN ?_ _ | refine blk_drew ?_ | refine blk_alloc ?_ _)); exact BK229.out)⟩; have n2_ : Aside0 (wr.heap[gb230]? = some (.cells #[u231000] 43 (0, 0))) := ⟨by rw [← hq_]; exact (by (with_reducible repeat (first | refine blk_drewN ?_ _ | refine blk_drew ?_ | refine blk_alloc ?_ _)); exact BK230.out)⟩; have n3_ : Aside0 (Below w.heap.size w wr) := ⟨by rw [← hq_]; exact (by repeat (first | (with_reducible first | exact HB.out | apply below_alloc | apply pw_below_drewN | apply below_drew1 | refine below_set ?_ GE229.out | refine below_set ?_ GE230.out) | exact HB.out))⟩; clear HO_231000 BK229 BK230 HB hq_; have HO_231000 := n0_; have BK229 := n1_; have BK230 := n2_; have HB := n3_; clear n0_ n1_ n2_ n3_)); have hnb25 := NB230_229.out; have hnc25 := NB229_230.out; have hcz26_0 : wr.cell? ⟨gb230, 0, none⟩ = some (u231000) := (blk_cell BK230.out 0).trans rfl; have hfz26_0 := blk_frozen BK230.out 0) | ((with_reducible refine gate_builtin (b := .append) (xs := #[.tmp 44, .tmp 46]) rfl ?_); at_builtin; refine Kd.R_append (Kd.int .i64) (w0 := w) w.heap.size rfl (.tmp 44) (.tmp 46) 43 3 (.int .i64 0) 8 rfl Try.underlying43 info3 rfl (by decide) (by omega) u231000 x231000_2 t231 [.int .i64 t231] (fun _ => True) (fun _ => False) rfl rfl ?aP (fun _ hk => hk.elim) ?aF ?aO ?aB ?aS ?aL ?_; (case aP => exact rfl); (case aB => exact (by repeat (first | (with_reducible first | exact HB.out | apply below_alloc | apply pw_below_drewN | apply below_drew1 | refine below_set ?_ GE229.out | refine below_set ?_ GE230.out) | exact HB.out))); (case aF => exact (fun _ _ => trivial)); (case aO => exact (by (with_reducible repeat (first | apply Kd.R_alloc | apply Kd.R_drewN | apply Kd.R_drew)); exact HO_231000.out)); (case aS => exact (below_size (by repeat (first | (with_reducible first | exact HB.out | apply below_alloc | apply pw_below_drewN | apply below_drew1 | refine below_set ?_ GE229.out | refine below_set ?_ GE230.out) | exact HB.out)))); (case aL => have := LMc22.out; omega); intro v234 w27 ho hb hg hat; rw [← Ny233.out] at ho; have n0_ := Aside0.mk (blk_grown (g := gb229) (o := .cells #[.int .i64 x230000_2, .int .i64 x230001_2, .int .i64 x230002_2, .int .i64 x230003_2] 23 (0, 0)) (by (with_reducible repeat (first | refine blk_drewN ?_ _ | refine blk_drew ?_ | refine blk_alloc ?_ _)); exact BK229.out) hg (Kd.R_ne HO_231000.out BK229.out (by decide))); have n1_ := Aside0.mk (blk_grown (g := gb230) (o := .cells #[u231000] 43 (0, 0)) (by (with_reducible repeat (first | refine blk_drewN ?_ _ | refine blk_drew ?_ | refine blk_alloc ?_ _)); exact BK230.out) hg (Kd.R_ne HO_231000.out BK230.out (by decide))); have n2_ := Aside0.mk (hb); have n3_ := Aside0.mk (ho); clear BK229; clear BK230; clear HB; clear HO_231000; have BK229 := n0_; have BK230 := n1_; have HB := n2_; have HO235 := n3_; clear n0_ n1_ n2_ n3_; clear ho hb hg hat; obtain ⟨Ao28, co28, eo28⟩ := Kd.R_slice HO235.out; subst eo28; have hcz29_0 : w27.cell? ⟨gb230, 0, none⟩ = some (u231000) := (blk_cell BK230.out 0).trans rfl; have hfz29_0 := blk_frozen BK230.out 0) | ((with_reducible refine gate_builtin (b := .append) (xs := #[.tmp 50, .tmp 52]) rfl ?_); at_builtin; refine Kd.R_append (Kd.int .i64) (w0 := w) w.heap.size rfl (.tmp 50) (.tmp 52) 43 3 (.int .i64 0) 8 rfl Try.underlying43 info3 rfl (by decide) (by omega) (.slice Ao28 y233.length co28) y233 t231 [.int .i64 t231] (fun _ => True) (fun _ => False) rfl (by first | (go_simp; done) | (go_simp; rfl)) ?aP (fun _ hk => hk.elim) ?aF ?aO ?aB ?aS ?aL ?_; (case aP => exact rfl); (case aB => exact (by repeat (first | (with_reducible first | exact HB.out | apply below_alloc | apply pw_below_drewN | apply below_drew1 | refine below_set ?_ GE229.out | refine below_set ?_ GE230.out) | exact HB.out))); (case aF => exact (fun _ _ => trivial)); (case aO => exact (by (with_reducible repeat (first | apply Kd.R_alloc | apply Kd.R_drewN | apply Kd.R_drew)); exact Kd.R_mono (Kd.R_far (p := ⟨gb230, 0, none⟩) (Kd.R_types HO235.out BK230.out (by decide)) (fun _ hk => hk.2) (.slice Ao28 y233.length co28)) (fun _ hk => trivial))); (case aS => exact (below_size (by repeat (first | (with_reducible first | exact HB.out | apply below_alloc | apply pw_below_drewN | apply below_drew1 | refine below_set ?_ GE229.out | refine below_set ?_ GE230.out) | exact HB.out)))); (case aL => have := LMc24.out; omega); intro v237 w30 ho hb hg hat; rw [← Ny236.out] at ho; have n0_ := Aside0.mk (blk_grown (g := gb229) (o := .cells #[.int .i64 x230000_2, .int .i64 x230001_2, .int .i64 x230002_2, .int .i64 x230003_2] 23 (0, 0)) (by (with_reducible repeat (first | refine blk_drewN ?_ _ | refine blk_drew ?_ | refine blk_alloc ?_ _)); refine blk_far ?_ NB229_230.out _; (with_reducible repeat (first | refine blk_drewN ?_ _ | refine blk_drew ?_ | refine blk_alloc ?_ _)); exact BK229.out) hg (Kd.R_ne HO235.out BK229.out (by decide))); have n1_ := Aside0.mk (blk_grown (g := gb230) (o := .cells #[.slice Ao28 y233.length co28] 43 (0, 0)) (by (with_reducible repeat (first | refine blk_drewN ?_ _ | refine blk_drew ?_ | refine blk_alloc ?_ _)); refine blk_put (cs := #[u231000]) ?_ 0 _ rfl; (with_reducible repeat (first | refine blk_drewN ?_ _ | refine blk_drew ?_ | refine blk_alloc ?_ _)); exact BK230.out) hg (Kd.R_ne HO235.out BK230.out (by decide))); have n2_ := Aside0.mk (hb); have n3_ := Aside0.mk (ho); clear BK229; clear BK230; clear HB; clear HO235; have BK229 := n0_; have BK230 := n1_; have HB := n2_; have HO238 := n3_; clear n0_ n1_ n2_ n3_; clear ho hb hg hat; obtain ⟨Ao31, co31, eo31⟩ := Kd.R_slice HO238.out; subst eo31; have hcz32_0 : w30.cell? ⟨gb230, 0, none⟩ = some (.slice Ao28 y233.length co28) := (blk_cell BK230.out 0).trans rfl; have hfz32_0 := blk_frozen BK230.out 0))
                  go_roundg k2
                  case measure => have := HJ1.out; have := HK2.out; omega
                  case rel => exact ⟨(wrap64 (x6_2 + 1)), (x230000_2), (x230001_2), (x230002_2), (x230003_2), (y236), (.slice Ao31 y236.length co31), (by first | rfl | (simp; done) | (simp [*]; done)), H', ⟨by have := HJ1.out; have := HK2.out; omega⟩, ⟨by (with_reducible repeat (first | apply Kd.R_alloc | apply Kd.R_drewN | apply Kd.R_drew)); exact Kd.R_mono (Kd.R_far (p := ⟨gb230, 0, none⟩) (Kd.R_types HO238.out BK230.out (by decide)) (fun _ hk => hk.2) (.slice Ao31 y236.length co31)) (fun _ hk => trivial)⟩, ⟨by (with_reducible repeat (first | refine blk_drewN ?_ _ | refine blk_drew ?_ | refine blk_alloc ?_ _)); refine blk_far ?_ NB229_230.out _; (with_reducible repeat (first | refine blk_drewN ?_ _ | refine blk_drew ?_ | refine blk_alloc ?_ _)); exact BK229.out⟩, ⟨by (with_reducible repeat (first | refine blk_drewN ?_ _ | refine blk_drew ?_ | refine blk_alloc ?_ _)); refine blk_put (cs := #[.slice Ao28 y233.length co28]) ?_ 0 _ rfl; (with_reducible repeat (first | refine blk_drewN ?_ _ | refine blk_drew ?_ | refine blk_alloc ?_ _)); exact BK230.out⟩, ⟨by repeat (first | (with_reducible first | exact HB.out | apply below_alloc | apply pw_below_drewN | apply below_drew1 | refine below_set ?_ GE229.out | refine below_set ?_ GE230.out) | exact HB.out)⟩⟩
                · rw [if_neg c23] at H
                  have c23b0 : ((wrap64 ((a0.size : Int) - 1)) == 3) = false := beq_eq_false_iff_ne.mpr c23
                  have c23b1 : ((wrap64 ((a0.size : Int) - 1)) != 3) = true := bne_iff_ne.mpr c23
                  have H' := Aside0.mk H
                  clear H
                  have p19 : 0 ≤ (x6_2 : Int) := of_decide_eq_true (by first | (with_reducible assumption) | assumption)
                  have q19 : x6_2 < (a0.size : Int) := of_decide_eq_true (by first | (with_reducible assumption) | assumption)
                  have hx19 := bt_at a0 x6_2
                  replace p19 := eq_true p19
                  replace q19 := eq_true q19
                  go_wp2_with (first | ((with_reducible refine gate_callee (f := 50) rfl ?_); refine goesL_ (some 38) rfl rfl Try.func50 (by kernel_rfl) rfl #[.int .u8 (bt a0 x6_2)] rfl (by (try simp only [List.map_toArray, List.map_cons, List.map_nil]); first | done | rfl | (simp only [List.length_drop, List.length_take]; rfl)) ?_; (with_reducible refine (pixel_digit.calls k2 (bt a0 x6_2) t231 true _ A20.out).mono ?_); rintro e w' ⟨rfl, ⟨nd, rfl⟩⟩; refine ⟨_, rfl, ?_⟩; (try (rw [drewN_self wr]; generalize hq_ : World.drewN wr _ = wr; have n0_ : Aside0 (Kd.R (Kd.int .i64) 3 wr w.heap.size (fun _ => True) u231000 x231000_2) := ⟨by rw [← hq_]; exact (by (with_reducible repeat (first | apply Kd.R_alloc | apply Kd.R_drewN | apply Kd.R_drew)); exact HO_231000.out)⟩; have n1_ : Aside0 (wr.heap[gb229]? = some (.cells #[.int .i64 x230000_2, .int .i64 x230001_2, .int .i64 x230002_2, .int .i64 x230003_2] 23 (0, 0))) := ⟨by rw [← hq_]; exact (by (with_reducible repeat (first | refine blk_drewN ?_ _ | refine blk_drew ?_ | refine blk_alloc ?_ _)); exact BK229.out)⟩; have n2_ : Aside0 (wr.heap[gb230]? = some (.cells #[u231000] 43 (0, 0))) := ⟨by rw [← hq_]; exact (by (with_reducible repeat (first | refine blk_drewN ?_ _ | refine blk_drew ?_ | refine blk_alloc ?_ _)); exact BK230.out)⟩; have n3_ : Aside0 (Below w.heap.size w wr) := ⟨by rw [← hq_]; exact (by repeat (first | (with_reducible first | exact HB.out | apply below_alloc | apply pw_below_drewN | apply below_drew1 | refine below_set ?_ GE229.out | refine below_set ?_ GE230.out) | exact HB.out))⟩; clear HO_231000 BK229 BK230 HB hq_; have HO_231000 := n0_; have BK229 := n1_; have BK230 := n2_; have HB := n3_; clear n0_ n1_ n2_ n3_)); have hnb33 := NB230_229.out; have hnc33 := NB229_230.out; have hcz34_0 : wr.cell? ⟨gb230, 0, none⟩ = some (u231000) := (blk_cell BK230.out 0).trans rfl; have hfz34_0 := blk_frozen BK230.out 0) | ((with_reducible refine gate_builtin (b := .append) (xs := #[.tmp 44, .tmp 46]) rfl ?_); at_builtin; refine Kd.R_append (Kd.int .i64) (w0 := w) w.heap.size rfl (.tmp 44) (.tmp 46) 43 3 (.int .i64 0) 8 rfl Try.underlying43 info3 rfl (by decide) (by omega) u231000 x231000_2 t231 [.int .i64 t231] (fun _ => True) (fun _ => False) rfl rfl ?aP (fun _ hk => hk.elim) ?aF ?aO ?aB ?aS ?aL ?_; (case aP => exact rfl); (case aB => exact (by repeat (first | (with_reducible first | exact HB.out | apply below_alloc | apply pw_below_drewN | apply below_drew1 | refine below_set ?_ GE229.out | refine below_set ?_ GE230.out) | exact HB.out))); (case aF => exact (fun _ _ => trivial)); (case aO => exact (by (with_reducible repeat (first | apply Kd.R_alloc | apply Kd.R_drewN | apply Kd.R_drew)); exact HO_231000.out)); (case aS => exact (below_size (by repeat (first | (with_reducible first | exact HB.out | apply below_alloc | apply pw_below_drewN | apply below_drew1 | refine below_set ?_ GE229.out | refine below_set ?_ GE230.out) | exact HB.out)))); (case aL => have := LMc22.out; omega); intro v234 w35 ho hb hg hat; rw [← Ny233.out] at ho; have n0_ := Aside0.mk (blk_grown (g := gb229) (o := .cells #[.int .i64 x230000_2, .int .i64 x230001_2, .int .i64 x230002_2, .int .i64 x230003_2] 23 (0, 0)) (by (with_reducible repeat (first | refine blk_drewN ?_ _ | refine blk_drew ?_ | refine blk_alloc ?_ _)); exact BK229.out) hg (Kd.R_ne HO_231000.out BK229.out (by decide))); have n1_ := Aside0.mk (blk_grown (g := gb230) (o := .cells #[u231000] 43 (0, 0)) (by (with_reducible repeat (first | refine blk_drewN ?_ _ | refine blk_drew ?_ | refine blk_alloc ?_ _)); exact BK230.out) hg (Kd.R_ne HO_231000.out BK230.out (by decide))); have n2_ := Aside0.mk (hb); have n3_ := Aside0.mk (ho); clear BK229; clear BK230; clear HB; clear HO_231000; have BK229 := n0_; have BK230 := n1_; have HB := n2_; have HO235 := n3_; clear n0_ n1_ n2_ n3_; clear ho hb hg hat; obtain ⟨Ao36, co36, eo36⟩ := Kd.R_slice HO235.out; subst eo36; have hcz37_0 : w35.cell? ⟨gb230, 0, none⟩ = some (u231000) := (blk_cell BK230.out 0).trans rfl; have hfz37_0 := blk_frozen BK230.out 0))
                  go_roundg k2
                  case measure => have := HJ1.out; have := HK2.out; omega
                  case rel => exact ⟨(wrap64 (x6_2 + 1)), (x230000_2), (x230001_2), (x230002_2), (x230003_2), (y233), (.slice Ao36 y233.length co36), (by first | rfl | (simp; done) | (simp [*]; done)), H', ⟨by have := HJ1.out; have := HK2.out; omega⟩, ⟨by (with_reducible repeat (first | apply Kd.R_alloc | apply Kd.R_drewN | apply Kd.R_drew)); exact Kd.R_mono (Kd.R_far (p := ⟨gb230, 0, none⟩) (Kd.R_types HO235.out BK230.out (by decide)) (fun _ hk => hk.2) (.slice Ao36 y233.length co36)) (fun _ hk => trivial)⟩, ⟨by (with_reducible repeat (first | refine blk_drewN ?_ _ | refine blk_drew ?_ | refine blk_alloc ?_ _)); refine blk_far ?_ NB229_230.out _; (with_reducible repeat (first | refine blk_drewN ?_ _ | refine blk_drew ?_ | refine blk_alloc ?_ _)); exact BK229.out⟩, ⟨by (with_reducible repeat (first | refine blk_drewN ?_ _ | refine blk_drew ?_ | refine blk_alloc ?_ _)); refine blk_put (cs := #[u231000]) ?_ 0 _ rfl; (with_reducible repeat (first | refine blk_drewN ?_ _ | refine blk_drew ?_ | refine blk_alloc ?_ _)); exact BK230.out⟩, ⟨by repeat (first | (with_reducible first | exact HB.out | apply below_alloc | apply pw_below_drewN | apply below_drew1 | refine below_set ?_ GE229.out | refine below_set ?_ GE230.out) | exact HB.out)⟩⟩
              · replace c21 := Bool.eq_false_iff.mpr c21
                subst c21
                have H1 : (some (0, 0, 0, 0, 4)) = some (r1, r2, r3, r4, r5) := by rw [if_neg (show ¬ (false = true) by decide)] at H; exact H
                clear H
                have H := H1
                clear H1
                simp only [Option.some.injEq, Prod.mk.injEq] at H
                obtain ⟨rfl, rfl, rfl, rfl, rfl⟩ := H
                have p19 : 0 ≤ (x6_2 : Int) := of_decide_eq_true (by first | (with_reducible assumption) | assumption)
                have q19 : x6_2 < (a0.size : Int) := of_decide_eq_true (by first | (with_reducible assumption) | assumption)
                have hx19 := bt_at a0 x6_2
                replace p19 := eq_true p19
                replace q19 := eq_true q19
                go_wp2_with (first | ((with_reducible refine gate_callee (f := 50) rfl ?_); refine goesL_ (some 38) rfl rfl Try.func50 (by kernel_rfl) rfl #[.int .u8 (bt a0 x6_2)] rfl (by (try simp only [List.map_toArray, List.map_cons, List.map_nil]); first | done | rfl | (simp only [List.length_drop, List.length_take]; rfl)) ?_; (with_reducible refine (pixel_digit.calls k2 (bt a0 x6_2) t231 false _ A20.out).mono ?_); rintro e w' ⟨rfl, ⟨nd, rfl⟩⟩; refine ⟨_, rfl, ?_⟩; (try (rw [drewN_self wr]; generalize hq_ : World.drewN wr _ = wr; have n0_ : Aside0 (Kd.R (Kd.int .i64) 3 wr w.heap.size (fun _ => True) u231000 x231000_2) := ⟨by rw [← hq_]; exact (by (with_reducible repeat (first | apply Kd.R_alloc | apply Kd.R_drewN | apply Kd.R_drew)); exact HO_231000.out)⟩; have n1_ : Aside0 (wr.heap[gb229]? = some (.cells #[.int .i64 x230000_2, .int .i64 x230001_2, .int .i64 x230002_2, .int .i64 x230003_2] 23 (0, 0))) := ⟨by rw [← hq_]; exact (by (with_reducible repeat (first | refine blk_drewN ?_ _ | refine blk_drew ?_ | refine blk_alloc ?_ _)); exact BK229.out)⟩; have n2_ : Aside0 (wr.heap[gb230]? = some (.cells #[u231000] 43 (0, 0))) := ⟨by rw [← hq_]; exact (by (with_reducible repeat (first | refine blk_drewN ?_ _ | refine blk_drew ?_ | refine blk_alloc ?_ _)); exact BK230.out)⟩; have n3_ : Aside0 (Below w.heap.size w wr) := ⟨by rw [← hq_]; exact (by repeat (first | (with_reducible first | exact HB.out | apply below_alloc | apply pw_below_drewN | apply below_drew1 | refine below_set ?_ GE229.out | refine below_set ?_ GE230.out) | exact HB.out))⟩; clear HO_231000 BK229 BK230 HB hq_; have HO_231000 := n0_; have BK229 := n1_; have BK230 := n2_; have HB := n3_; clear n0_ n1_ n2_ n3_)); have hnb38 := NB229_230.out; have hnc38 := NB230_229.out; have hcz39_0 : wr.cell? ⟨gb229, 0, none⟩ = some (.int .i64 x230000_2) := (blk_cell BK229.out 0).trans rfl; have hcz39_1 : wr.cell? ⟨gb229, 1, none⟩ = some (.int .i64 x230001_2) := (blk_cell BK229.out 1).trans rfl; have hcz39_2 : wr.cell? ⟨gb229, 2, none⟩ = some (.int .i64 x230002_2) := (blk_cell BK229.out 2).trans rfl; have hcz39_3 : wr.cell? ⟨gb229, 3, none⟩ = some (.int .i64 x230003_2) := (blk_cell BK229.out 3).trans rfl; have hfz39_0 := blk_frozen BK229.out 0; have hfz39_1 := blk_frozen BK229.out 1; have hfz39_2 := blk_frozen BK229.out 2; have hfz39_3 := blk_frozen BK229.out 3))
                refine bodyPost_ret (results_ct rfl _ _ gb229 23 #[.int .i64 0, .int .i64 0, .int .i64 0, .int .i64 0] (0, 0) _ rfl (by (with_reducible repeat (first | refine blk_drewN ?_ _ | refine blk_drew ?_ | refine blk_alloc ?_ _)); refine blk_put (cs := #[.int .i64 0, .int .i64 0, .int .i64 0, .int .i64 x230003_2]) ?_ 3 _ rfl; (with_reducible repeat (first | refine blk_drewN ?_ _ | refine blk_drew ?_ | refine blk_alloc ?_ _)); refine blk_put (cs := #[.int .i64 0, .int .i64 0, .int .i64 x230002_2, .int .i64 x230003_2]) ?_ 2 _ rfl; (with_reducible repeat (first | refine blk_drewN ?_ _ | refine blk_drew ?_ | refine blk_alloc ?_ _)); refine blk_put (cs := #[.int .i64 0, .int .i64 x230001_2, .int .i64 x230002_2, .int .i64 x230003_2]) ?_ 1 _ rfl; (with_reducible repeat (first | refine blk_drewN ?_ _ | refine blk_drew ?_ | refine blk_alloc ?_ _)); refine blk_put (cs := #[.int .i64 x230000_2, .int .i64 x230001_2, .int .i64 x230002_2, .int .i64 x230003_2]) ?_ 0 _ rfl; (with_reducible repeat (first | refine blk_drewN ?_ _ | refine blk_drew ?_ | refine blk_alloc ?_ _)); exact BK229.out) Try.underlying23 rfl (by kernel_rfl)) rfl ?_
                exact ⟨by first | rfl | (simp [errW_none, errW_some] <;> rfl) | (simp [*, errW_none, errW_some] <;> rfl), by repeat (first | (with_reducible first | exact HB.out | apply below_alloc | apply pw_below_drewN | apply below_drew1 | refine below_set ?_ GE229.out | refine below_set ?_ GE230.out) | exact HB.out)⟩
            · rw [if_neg c16] at H
              have c16b0 : decide (x6_2 ≤ (wrap64 ((a0.size : Int) - 1))) = false := decide_eq_false c16
              clear c16
              have HC40 := Aside0.mk H
              clear H
              go_upto_if 55 with (fail)
              go_cut [] (fun wc => ∃ (kq : Nat) (x231000_39 : List Int) (u231000 : Value), Aside0 (pixel_Parse.j2 kq x231000_39 = some (r1, r2, r3, r4, r5)) ∧ Aside0 (kq ≤ k2) ∧ Aside0 (Kd.R (Kd.int .i64) 3 wc w.heap.size (fun _ => True) u231000 x231000_39) ∧ Aside0 (wc.heap[gb229]? = some (.cells #[.int .i64 x230000_2, .int .i64 x230001_2, .int .i64 x230002_2, .int .i64 x230003_2] 23 (0, 0))) ∧ Aside0 (wc.heap[gb230]? = some (.cells #[u231000] 43 (0, 0))) ∧ Aside0 (Below w.heap.size w wc))
              case first =>
                have H := HC40.out
                clear HC40
                by_cases c41 : (wrap64 ((a0.size : Int) - 1)) = 8
                · rw [if_pos c41] at H
                  have c41b0 : ((wrap64 ((a0.size : Int) - 1)) == 8) = true := beq_iff_eq.mpr c41
                  have c41b1 : ((wrap64 ((a0.size : Int) - 1)) != 8) = false := bne_eq_false_iff_eq.mpr c41
                  clear c41
                  (first | rw [c41b0] | (simp only [i64_w, i32_w]; rw [c41b0]) | skip)
                  have H' := Aside0.mk H
                  clear H
                  go_wp2
                  go_meet
                  case rel => exact ⟨_, (x231000_2), (u231000), H', ⟨by have := HJ1.out; have := HK2.out; first | omega | exact Nat.le_refl _⟩, ⟨by (with_reducible repeat (first | apply Kd.R_alloc | apply Kd.R_drewN | apply Kd.R_drew)); exact HO_231000.out⟩, ⟨by (with_reducible repeat (first | refine blk_drewN ?_ _ | refine blk_drew ?_ | refine blk_alloc ?_ _)); exact BK229.out⟩, ⟨by (with_reducible repeat (first | refine blk_drewN ?_ _ | refine blk_drew ?_ | refine blk_alloc ?_ _)); exact BK230.out⟩, ⟨by repeat (first | (with_reducible first | exact HB.out | apply below_alloc | apply pw_below_drewN | apply below_drew1 | refine below_set ?_ GE229.out | refine below_set ?_ GE230.out) | exact HB.out)⟩⟩
                · rw [if_neg c41] at H
                  have c41b0 : ((wrap64 ((a0.size : Int) - 1)) == 8) = false := beq_eq_false_iff_ne.mpr c41
                  have c41b1 : ((wrap64 ((a0.size : Int) - 1)) != 8) = true := bne_iff_ne.mpr c41
                  (first | rw [c41b0] | (simp only [i64_w, i32_w]; rw [c41b0]) | skip)
                  obtain ⟨y239, hy239⟩ : ∃ y_ : List Int, y_ = (([15, 15] : List Int)) := ⟨_, rfl⟩
                  replace H : (if x231000_2.length + y239.length < 17592186044416 then (pixel_Parse.j2 k2 (x231000_2 ++ y239)) else (none)) = some (r1, r2, r3, r4, r5) := by first | (rw [hy239]; with_reducible exact H) | (have H2_ := (Option.bind_some _ _).symm.trans H; rw [hy239]; with_reducible exact H2_) | (have H2_ := (Option.bind_some _ _).symm.trans H; with_reducible exact H2_) | with_reducible exact H | (rw [hy239]; exact H) | exact H
                  have Ny239 := Aside0.mk hy239
                  clear hy239
                  by_cases c42 : x231000_2.length + y239.length < 17592186044416
                  rotate_left
                  · rw [if_neg c42] at H
                    exact absurd H (by simp)
                  rw [if_pos c42] at H
                  have LMc42 := Aside0.mk c42
                  clear c42
                  obtain ⟨y242, hy242⟩ : ∃ y_ : List Int, y_ = (x231000_2 ++ y239) := ⟨_, rfl⟩
                  replace H : (pixel_Parse.j2 k2 y242) = some (r1, r2, r3, r4, r5) := by first | (rw [hy242]; with_reducible exact H) | (have H2_ := (Option.bind_some _ _).symm.trans H; rw [hy242]; with_reducible exact H2_) | (have H2_ := (Option.bind_some _ _).symm.trans H; with_reducible exact H2_) | with_reducible exact H | (rw [hy242]; exact H) | exact H
                  have Ny242 := Aside0.mk hy242
                  clear hy242
                  have H' := Aside0.mk H
                  clear H
                  have hnb43 := NB230_229.out
                  have hnc43 := NB229_230.out
                  have hcz44_0 : wr.cell? ⟨gb230, 0, none⟩ = some (u231000) := (blk_cell BK230.out 0).trans rfl
                  have hfz44_0 := blk_frozen BK230.out 0
                  go_wp2_with (first | ((with_reducible refine gate_dst (N := 57) rfl ?_); refine Kd.R_lit (Kd.int .i64) _ 3 ?hg (N := 57) ?hd (xs := ([15, 15] : List Int)) (inner := [.int .i64 15, .int .i64 15]) (ok := fun _ => True) (okp := fun _ => True) ?hr ?hp (fun _ hk => hk) trivial (Below.refl _ _) (Nat.le_refl _) (by simp) ?_; (case hd => rfl); (case hg => rfl); (case hr => first | (go_simp; done) | (go_simp; rfl)); (case hp => exact (Reps.one (show Kd.M (Kd.int .i64) _ _ _ 15 [.int .i64 15] from rfl) (Reps.one (show Kd.M (Kd.int .i64) _ _ _ 15 [.int .i64 15] from rfl) (Reps.none _ _)))); intro v240 w45 ho46 hb hg_ hnew_; clear hg_ hnew_; (first | rw [← Ny239.out] at ho46 | (simp only [Int.reduceToNat] at ho46; rw [← Ny239.out] at ho46)); have n0_ := Aside0.mk (Kd.R_elder' (by (with_reducible repeat (first | apply Kd.R_alloc | apply Kd.R_drewN | apply Kd.R_drew)); exact HO_231000.out) (Kd.R_base ho46) hb); have n1_ := Aside0.mk (Kd.R_lower (Kd.R_new' ho46 (Kd.R_lt (by (with_reducible repeat (first | apply Kd.R_alloc | apply Kd.R_drewN | apply Kd.R_drew)); exact HO_231000.out))) (below_size (by repeat (first | (with_reducible first | exact HB.out | apply below_alloc | apply pw_below_drewN | apply below_drew1 | refine below_set ?_ GE229.out | refine below_set ?_ GE230.out) | exact HB.out)))); have n2_ := Aside0.mk (blk_below (g := gb229) (o := .cells #[.int .i64 x230000_2, .int .i64 x230001_2, .int .i64 x230002_2, .int .i64 x230003_2] 23 (0, 0)) (by (with_reducible repeat (first | refine blk_drewN ?_ _ | refine blk_drew ?_ | refine blk_alloc ?_ _)); exact BK229.out) hb); have n3_ := Aside0.mk (blk_below (g := gb230) (o := .cells #[u231000] 43 (0, 0)) (by (with_reducible repeat (first | refine blk_drewN ?_ _ | refine blk_drew ?_ | refine blk_alloc ?_ _)); exact BK230.out) hb); have n4_ := Aside0.mk (below_step (by repeat (first | (with_reducible first | exact HB.out | apply below_alloc | apply pw_below_drewN | apply below_drew1 | refine below_set ?_ GE229.out | refine below_set ?_ GE230.out) | exact HB.out)) hb); clear HO_231000; clear BK229; clear BK230; clear HB; have HO_231000 := n0_; have HO241 := n1_; have BK229 := n2_; have BK230 := n3_; have HB := n4_; clear n0_ n1_ n2_ n3_ n4_; clear hb ho46; obtain ⟨Ao48, co48, eo48⟩ := Kd.R_slice HO241.out; subst eo48) | ((with_reducible refine gate_builtin (b := .append) (xs := #[.tmp 56, .tmp 57]) rfl ?_); at_builtin; refine Kd.R_append_rows (Kd.int .i64) (w0 := w) w.heap.size rfl (.tmp 56) (.tmp 57) 43 3 (.int .i64 0) 8 rfl Try.underlying43 info3 rfl (by decide) (by omega) u231000 x231000_2 y239 _ _ _ (fun k_ => some k_ ≠ (.slice Ao48 y239.length co48 : Value).ownBlock) (fun _ => False) rfl rfl ?aO ?aR (fun _ _ h => h) (fun _ h => h.elim) ?aF ?aB ?aS ?aL ?_; (case aR => repeat (first | exact (Kd.R_reads' HO241.out).2.2 | (with_reducible refine Kd.C_alloc ?_ _) | (with_reducible refine Kd.C_drewN ?_ _) | (with_reducible refine Kd.C_drew ?_))); (case aB => exact (by repeat (first | (with_reducible first | exact HB.out | apply below_alloc | apply pw_below_drewN | apply below_drew1 | refine below_set ?_ GE229.out | refine below_set ?_ GE230.out) | exact HB.out))); (case aF => exact (fun k_ hk => Kd.fresh' (Kd.R_lt (by (with_reducible repeat (first | apply Kd.R_alloc | apply Kd.R_drewN | apply Kd.R_drew)); exact HO241.out)) k_ hk)); (case aO => exact (by (with_reducible repeat (first | apply Kd.R_alloc | apply Kd.R_drewN | apply Kd.R_drew)); exact Kd.R_mono HO_231000.out (fun _ hk => hk.2))); (case aS => exact (below_size (by repeat (first | (with_reducible first | exact HB.out | apply below_alloc | apply pw_below_drewN | apply below_drew1 | refine below_set ?_ GE229.out | refine below_set ?_ GE230.out) | exact HB.out)))); (case aL => have := LMc42.out; omega); intro v243 w47 ho hb hg hat; rw [← Ny242.out] at ho; have n0_ := Aside0.mk (blk_grown (g := gb229) (o := .cells #[.int .i64 x230000_2, .int .i64 x230001_2, .int .i64 x230002_2, .int .i64 x230003_2] 23 (0, 0)) (by (with_reducible repeat (first | refine blk_drewN ?_ _ | refine blk_drew ?_ | refine blk_alloc ?_ _)); exact BK229.out) hg (Kd.R_ne HO_231000.out BK229.out (by decide))); have n1_ := Aside0.mk (blk_grown (g := gb230) (o := .cells #[u231000] 43 (0, 0)) (by (with_reducible repeat (first | refine blk_drewN ?_ _ | refine blk_drew ?_ | refine blk_alloc ?_ _)); exact BK230.out) hg (Kd.R_ne HO_231000.out BK230.out (by decide))); have n2_ := Aside0.mk (Kd.R_after (ok := (fun _ => True)) (by (with_reducible repeat (first | apply Kd.R_alloc | apply Kd.R_drewN | apply Kd.R_drew)); exact HO241.out) hg hat); have n3_ := Aside0.mk (hb); have n4_ := Aside0.mk (ho); clear BK229; clear BK230; clear HO241; clear HB; clear HO_231000; have BK229 := n0_; have BK230 := n1_; have HO241 := n2_; have HB := n3_; have HO244 := n4_; clear n0_ n1_ n2_ n3_ n4_; clear ho hb hg hat; obtain ⟨Ao49, co49, eo49⟩ := Kd.R_slice HO244.out; subst eo49; have hcz50_0 : w47.cell? ⟨gb230, 0, none⟩ = some (u231000) := (blk_cell BK230.out 0).trans rfl; have hfz50_0 := blk_frozen BK230.out 0))
                  go_meet
                  case rel => exact ⟨_, (y242), (.slice Ao49 y242.length co49), H', ⟨by have := HJ1.out; have := HK2.out; first | omega | exact Nat.le_refl _⟩, ⟨by (with_reducible repeat (first | apply Kd.R_alloc | apply Kd.R_drewN | apply Kd.R_drew)); exact Kd.R_mono (Kd.R_far (p := ⟨gb230, 0, none⟩) (Kd.R_types HO244.out BK230.out (by decide)) (fun _ hk => hk.2) (.slice Ao49 y242.length co49)) (fun _ hk => trivial)⟩, ⟨by (with_reducible repeat (first | refine blk_drewN ?_ _ | refine blk_drew ?_ | refine blk_alloc ?_ _)); refine blk_far ?_ NB229_230.out _; (with_reducible repeat (first | refine blk_drewN ?_ _ | refine blk_drew ?_ | refine blk_alloc ?_ _)); exact BK229.out⟩, ⟨by (with_reducible repeat (first | refine blk_drewN ?_ _ | refine blk_drew ?_ | refine blk_alloc ?_ _)); refine blk_put (cs := #[u231000]) ?_ 0 _ rfl; (with_reducible repeat (first | refine blk_drewN ?_ _ | refine blk_drew ?_ | refine blk_alloc ?_ _)); exact BK230.out⟩, ⟨by repeat (first | (with_reducible first | exact HB.out | apply below_alloc | apply pw_below_drewN | apply below_drew1 | refine below_set ?_ GE229.out | refine below_set ?_ GE230.out) | exact HB.out)⟩⟩
              case rest =>
                clear HC40
                try clear c1
                try clear p1
                try clear q1
                try clear hx1
                try clear qi1
                try clear c2
                try clear p2
                try clear c3
                try clear c4
                try clear c4b0
                try clear c4b1
                try clear c5
                try clear c5b0
                try clear c5b1
                try clear p6
                try clear q6
                try clear hx6
                try clear qi6
                try clear c7
                try clear c7b0
                try clear c7b1
                try clear c8
                try clear c8b0
                try clear c8b1
                try clear p9
                try clear q9
                try clear hx9
                try clear qi9
                try clear c10
                try clear c10b0
                try clear c10b1
                try clear c11
                try clear c11b0
                try clear c11b1
                try clear p12
                try clear q12
                try clear hx12
                try clear qi12
                try clear c13
                try clear c16
                try clear c16b0
                try clear c17
                try clear c17b0
                try clear c18
                try clear c18b0
                try clear p19
                try clear q19
                try clear hx19
                try clear c21
                try clear c22
                try clear c23
                try clear c23b0
                try clear c23b1
                try clear c24
                try clear c25
                try clear c32
                try clear c33
                try clear c38
                try clear c41
                try clear c41b0
                try clear c41b1
                try clear c42
                try clear c43
                try clear c50
                try clear hcz14_0
                try clear hcz14_1
                try clear hcz14_2
                try clear hcz14_3
                try clear hcz26_0
                try clear hcz29_0
                try clear hcz32_0
                try clear hcz34_0
                try clear hcz37_0
                try clear hcz39_0
                try clear hcz39_1
                try clear hcz39_2
                try clear hcz39_3
                try clear hcz44_0
                try clear hcz50_0
                try clear hfz14_0
                try clear hfz14_1
                try clear hfz14_2
                try clear hfz14_3
                try clear hfz26_0
                try clear hfz29_0
                try clear hfz32_0
                try clear hfz34_0
                try clear hfz37_0
                try clear hfz39_0
                try clear hfz39_1
                try clear hfz39_2
                try clear hfz39_3
                try clear hfz44_0
                try clear hfz50_0
                try clear p1
                try clear p12
                try clear p19
                try clear p2
                try clear p6
                try clear p9
                try clear q1
                try clear q12
                try clear q19
                try clear q6
                try clear q9
                obtain ⟨kq, x231000_39, u231000, HA, HJ39, HO_231000, BK229, BK230, HB⟩ := hcut
                cases kq with
                | zero => exact absurd HA.out (by simp [pixel_Parse.j2])
                | succ kj39 =>
                  have H := HA.out
                  clear HA
                  simp only [pixel_Parse.j2] at H
                  replace H := Option.bind_eq_some_iff.mp H
                  obtain ⟨t245, A510, H⟩ := H
                  replace H : ((pixel_Parse_1.f 1 x231000_39).bind fun t246 => ((pixel_Parse_1.f 2 x231000_39).bind fun t247 => ((pixel_Parse_1.f 3 x231000_39).bind fun t248 => (some (t245, t246, t247, t248, 0))))) = some (r1, r2, r3, r4, r5) := H
                  have A51 := Aside0.mk A510
                  clear A510
                  replace H := Option.bind_eq_some_iff.mp H
                  obtain ⟨t246, A520, H⟩ := H
                  replace H : ((pixel_Parse_1.f 2 x231000_39).bind fun t247 => ((pixel_Parse_1.f 3 x231000_39).bind fun t248 => (some (t245, t246, t247, t248, 0)))) = some (r1, r2, r3, r4, r5) := H
                  have A52 := Aside0.mk A520
                  clear A520
                  replace H := Option.bind_eq_some_iff.mp H
                  obtain ⟨t247, A530, H⟩ := H
                  replace H : ((pixel_Parse_1.f 3 x231000_39).bind fun t248 => (some (t245, t246, t247, t248, 0))) = some (r1, r2, r3, r4, r5) := H
                  have A53 := Aside0.mk A530
                  clear A530
                  replace H := Option.bind_eq_some_iff.mp H
                  obtain ⟨t248, A540, H⟩ := H
                  replace H : (some (t245, t246, t247, t248, 0)) = some (r1, r2, r3, r4, r5) := H
                  have A54 := Aside0.mk A540
                  clear A540
                  simp only [Option.some.injEq, Prod.mk.injEq] at H
                  obtain ⟨rfl, rfl, rfl, rfl, rfl⟩ := H
                  obtain ⟨Ao55, co55, eo55⟩ := Kd.R_slice HO_231000.out
                  subst eo55
                  go_wp2_with (first | (refine goesVL_ (some 61) rfl rfl Try.func51 (by kernel_rfl) rfl #[.int .i64 0, .pointer (some ⟨gb230, 0, none⟩)] rfl rfl (by (try simp only [List.map_toArray, List.map_cons, List.map_nil]); first | done | rfl | (simp only [List.length_drop, List.length_take]; rfl)) ?_; (with_reducible refine (pixel_Parse_1.calls 0  Ao55 co55 x231000_39 t245 _ ?side1 ?side2 ?side3 A51.out).mono ?_); (case side1 => (with_reducible repeat (first | refine blk_drewN ?_ _ | refine blk_drew ?_ | refine blk_alloc ?_ _)); exact BK230.out); (case side2 => repeat (first | exact (Kd.R_reads' HO_231000.out).2.2 | (with_reducible refine Kd.C_alloc ?_ _) | (with_reducible refine Kd.C_drewN ?_ _) | (with_reducible refine Kd.C_drew ?_))); (case side3 => exact (Kd.R_reads' HO_231000.out).2.1); rintro e w56 ⟨rfl, hb⟩; refine ⟨_, rfl, ?_⟩; have n0_ := Aside0.mk (Kd.R_below (by (with_reducible repeat (first | apply Kd.R_alloc | apply Kd.R_drewN | apply Kd.R_drew)); exact HO_231000.out) hb); have n1_ := Aside0.mk (blk_below (g := gb229) (o := .cells #[.int .i64 x230000_2, .int .i64 x230001_2, .int .i64 x230002_2, .int .i64 x230003_2] 23 (0, 0)) (by (with_reducible repeat (first | refine blk_drewN ?_ _ | refine blk_drew ?_ | refine blk_alloc ?_ _)); exact BK229.out) hb); have n2_ := Aside0.mk (blk_below (g := gb230) (o := .cells #[.slice Ao55 x231000_39.length co55] 43 (0, 0)) (by (with_reducible repeat (first | refine blk_drewN ?_ _ | refine blk_drew ?_ | refine blk_alloc ?_ _)); exact BK230.out) hb); have n3_ := Aside0.mk (below_step (by repeat (first | (with_reducible first | exact HB.out | apply below_alloc | apply pw_below_drewN | apply below_drew1 | refine below_set ?_ GE229.out | refine below_set ?_ GE230.out) | exact HB.out)) hb); clear HO_231000; clear BK229; clear BK230; clear HB; have HO_231000 := n0_; have BK229 := n1_; have BK230 := n2_; have HB := n3_; clear n0_ n1_ n2_ n3_; (try clear hb); (try clear hb2); (try clear hk); (try clear hi)) | (refine goesVL_ (some 63) rfl rfl Try.func51 (by kernel_rfl) rfl #[.int .i64 1, .pointer (some ⟨gb230, 0, none⟩)] rfl rfl (by (try simp only [List.map_toArray, List.map_cons, List.map_nil]); first | done | rfl | (simp only [List.length_drop, List.length_take]; rfl)) ?_; (with_reducible refine (pixel_Parse_1.calls 1  Ao55 co55 x231000_39 t246 _ ?side1 ?side2 ?side3 A52.out).mono ?_); (case side1 => (with_reducible repeat (first | refine blk_drewN ?_ _ | refine blk_drew ?_ | refine blk_alloc ?_ _)); exact BK230.out); (case side2 => repeat (first | exact (Kd.R_reads' HO_231000.out).2.2 | (with_reducible refine Kd.C_alloc ?_ _) | (with_reducible refine Kd.C_drewN ?_ _) | (with_reducible refine Kd.C_drew ?_))); (case side3 => exact (Kd.R_reads' HO_231000.out).2.1); rintro e w57 ⟨rfl, hb⟩; refine ⟨_, rfl, ?_⟩; have n0_ := Aside0.mk (Kd.R_below (by (with_reducible repeat (first | apply Kd.R_alloc | apply Kd.R_drewN | apply Kd.R_drew)); exact HO_231000.out) hb); have n1_ := Aside0.mk (blk_below (g := gb229) (o := .cells #[.int .i64 x230000_2, .int .i64 x230001_2, .int .i64 x230002_2, .int .i64 x230003_2] 23 (0, 0)) (by (with_reducible repeat (first | refine blk_drewN ?_ _ | refine blk_drew ?_ | refine blk_alloc ?_ _)); exact BK229.out) hb); have n2_ := Aside0.mk (blk_below (g := gb230) (o := .cells #[.slice Ao55 x231000_39.length co55] 43 (0, 0)) (by (with_reducible repeat (first | refine blk_drewN ?_ _ | refine blk_drew ?_ | refine blk_alloc ?_ _)); exact BK230.out) hb); have n3_ := Aside0.mk (below_step (by repeat (first | (with_reducible first | exact HB.out | apply below_alloc | apply pw_below_drewN | apply below_drew1 | refine below_set ?_ GE229.out | refine below_set ?_ GE230.out) | exact HB.out)) hb); clear HO_231000; clear BK229; clear BK230; clear HB; have HO_231000 := n0_; have BK229 := n1_; have BK230 := n2_; have HB := n3_; clear n0_ n1_ n2_ n3_; (try clear hb); (try clear hb2); (try clear hk); (try clear hi)) | (refine goesVL_ (some 65) rfl rfl Try.func51 (by kernel_rfl) rfl #[.int .i64 2, .pointer (some ⟨gb230, 0, none⟩)] rfl rfl (by (try simp only [List.map_toArray, List.map_cons, List.map_nil]); first | done | rfl | (simp only [List.length_drop, List.length_take]; rfl)) ?_; (with_reducible refine (pixel_Parse_1.calls 2  Ao55 co55 x231000_39 t247 _ ?side1 ?side2 ?side3 A53.out).mono ?_); (case side1 => (with_reducible repeat (first | refine blk_drewN ?_ _ | refine blk_drew ?_ | refine blk_alloc ?_ _)); exact BK230.out); (case side2 => repeat (first | exact (Kd.R_reads' HO_231000.out).2.2 | (with_reducible refine Kd.C_alloc ?_ _) | (with_reducible refine Kd.C_drewN ?_ _) | (with_reducible refine Kd.C_drew ?_))); (case side3 => exact (Kd.R_reads' HO_231000.out).2.1); rintro e w58 ⟨rfl, hb⟩; refine ⟨_, rfl, ?_⟩; have n0_ := Aside0.mk (Kd.R_below (by (with_reducible repeat (first | apply Kd.R_alloc | apply Kd.R_drewN | apply Kd.R_drew)); exact HO_231000.out) hb); have n1_ := Aside0.mk (blk_below (g := gb229) (o := .cells #[.int .i64 x230000_2, .int .i64 x230001_2, .int .i64 x230002_2, .int .i64 x230003_2] 23 (0, 0)) (by (with_reducible repeat (first | refine blk_drewN ?_ _ | refine blk_drew ?_ | refine blk_alloc ?_ _)); exact BK229.out) hb); have n2_ := Aside0.mk (blk_below (g := gb230) (o := .cells #[.slice Ao55 x231000_39.length co55] 43 (0, 0)) (by (with_reducible repeat (first | refine blk_drewN ?_ _ | refine blk_drew ?_ | refine blk_alloc ?_ _)); exact BK230.out) hb); have n3_ := Aside0.mk (below_step (by repeat (first | (with_reducible first | exact HB.out | apply below_alloc | apply pw_below_drewN | apply below_drew1 | refine below_set ?_ GE229.out | refine below_set ?_ GE230.out) | exact HB.out)) hb); clear HO_231000; clear BK229; clear BK230; clear HB; have HO_231000 := n0_; have BK229 := n1_; have BK230 := n2_; have HB := n3_; clear n0_ n1_ n2_ n3_; (try clear hb); (try clear hb2); (try clear hk); (try clear hi)) | (refine goesVL_ (some 67) rfl rfl Try.func51 (by kernel_rfl) rfl #[.int .i64 3, .pointer (some ⟨gb230, 0, none⟩)] rfl rfl (by (try simp only [List.map_toArray, List.map_cons, List.map_nil]); first | done | rfl | (simp only [List.length_drop, List.length_take]; rfl)) ?_; (with_reducible refine (pixel_Parse_1.calls 3  Ao55 co55 x231000_39 t248 _ ?side1 ?side2 ?side3 A54.out).mono ?_); (case side1 => (with_reducible repeat (first | refine blk_drewN ?_ _ | refine blk_drew ?_ | refine blk_alloc ?_ _)); exact BK230.out); (case side2 => repeat (first | exact (Kd.R_reads' HO_231000.out).2.2 | (with_reducible refine Kd.C_alloc ?_ _) | (with_reducible refine Kd.C_drewN ?_ _) | (with_reducible refine Kd.C_drew ?_))); (case side3 => exact (Kd.R_reads' HO_231000.out).2.1); rintro e w59 ⟨rfl, hb⟩; refine ⟨_, rfl, ?_⟩; have n0_ := Aside0.mk (Kd.R_below (by (with_reducible repeat (first | apply Kd.R_alloc | apply Kd.R_drewN | apply Kd.R_drew)); exact HO_231000.out) hb); have n1_ := Aside0.mk (blk_below (g := gb229) (o := .cells #[.int .i64 x230000_2, .int .i64 x230001_2, .int .i64 x230002_2, .int .i64 x230003_2] 23 (0, 0)) (by (with_reducible repeat (first | refine blk_drewN ?_ _ | refine blk_drew ?_ | refine blk_alloc ?_ _)); exact BK229.out) hb); have n2_ := Aside0.mk (blk_below (g := gb230) (o := .cells #[.slice Ao55 x231000_39.length co55] 43 (0, 0)) (by (with_reducible repeat (first | refine blk_drewN ?_ _ | refine blk_drew ?_ | refine blk_alloc ?_ _)); exact BK230.out) hb); have n3_ := Aside0.mk (below_step (by repeat (first | (with_reducible first | exact HB.out | apply below_alloc | apply pw_below_drewN | apply below_drew1 | refine below_set ?_ GE229.out | refine below_set ?_ GE230.out) | exact HB.out)) hb); clear HO_231000; clear BK229; clear BK230; clear HB; have HO_231000 := n0_; have BK229 := n1_; have BK230 := n2_; have HB := n3_; clear n0_ n1_ n2_ n3_; (try clear hb); (try clear hb2); (try clear hk); (try clear hi); have hnb60 := NB229_230.out; have hnc60 := NB230_229.out; have hcz61_0 : w59.cell? ⟨gb229, 0, none⟩ = some (.int .i64 x230000_2) := (blk_cell BK229.out 0).trans rfl; have hcz61_1 : w59.cell? ⟨gb229, 1, none⟩ = some (.int .i64 x230001_2) := (blk_cell BK229.out 1).trans rfl; have hcz61_2 : w59.cell? ⟨gb229, 2, none⟩ = some (.int .i64 x230002_2) := (blk_cell BK229.out 2).trans rfl; have hcz61_3 : w59.cell? ⟨gb229, 3, none⟩ = some (.int .i64 x230003_2) := (blk_cell BK229.out 3).trans rfl; have hfz61_0 := blk_frozen BK229.out 0; have hfz61_1 := blk_frozen BK229.out 1; have hfz61_2 := blk_frozen BK229.out 2; have hfz61_3 := blk_frozen BK229.out 3))
                  refine bodyPost_ret (results_ct rfl _ _ gb229 23 #[.int .i64 t245, .int .i64 t246, .int .i64 t247, .int .i64 t248] (0, 0) _ rfl (by (with_reducible repeat (first | refine blk_drewN ?_ _ | refine blk_drew ?_ | refine blk_alloc ?_ _)); refine blk_put (cs := #[.int .i64 t245, .int .i64 t246, .int .i64 t247, .int .i64 x230003_2]) ?_ 3 _ rfl; (with_reducible repeat (first | refine blk_drewN ?_ _ | refine blk_drew ?_ | refine blk_alloc ?_ _)); refine blk_put (cs := #[.int .i64 t245, .int .i64 t246, .int .i64 x230002_2, .int .i64 x230003_2]) ?_ 2 _ rfl; (with_reducible repeat (first | refine blk_drewN ?_ _ | refine blk_drew ?_ | refine blk_alloc ?_ _)); refine blk_put (cs := #[.int .i64 t245, .int .i64 x230001_2, .int .i64 x230002_2, .int .i64 x230003_2]) ?_ 1 _ rfl; (with_reducible repeat (first | refine blk_drewN ?_ _ | refine blk_drew ?_ | refine blk_alloc ?_ _)); refine blk_put (cs := #[.int .i64 x230000_2, .int .i64 x230001_2, .int .i64 x230002_2, .int .i64 x230003_2]) ?_ 0 _ rfl; (with_reducible repeat (first | refine blk_drewN ?_ _ | refine blk_drew ?_ | refine blk_alloc ?_ _)); exact BK229.out) Try.underlying23 rfl (by kernel_rfl)) rfl ?_
                  exact ⟨by first | rfl | (simp [errW_none, errW_some] <;> rfl) | (simp [*, errW_none, errW_some] <;> rfl), by repeat (first | (with_reducible first | exact HB.out | apply below_alloc | apply pw_below_drewN | apply below_drew1 | refine below_set ?_ GE229.out | refine below_set ?_ GE230.out) | exact HB.out)⟩

end Go.Proofs.Ytmklcmobahgeeaa.Q
