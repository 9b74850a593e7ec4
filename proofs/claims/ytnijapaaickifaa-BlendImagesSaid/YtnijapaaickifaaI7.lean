-- Written for this claim by a program of this session (handprint.py) that drives the kit's print. Not trusted: Lean checks it.
import Derived.Test.YtnijapaaickifaaI0
import Derived.Test.YtnijapaaickifaaI2
import Derived.Test.YtnijapaaickifaaI3
import Derived.Test.YtnijapaaickifaaI4
import Derived.Test.YtnijapaaickifaaI5
import Derived.Test.YtnijapaaickifaaI6
namespace Go.Proofs.Ytnijapaaickifaa.I
open Go.RowKit Go.Proofs.YtnijapaaickifaaW.PrintWords Go.Proofs.YtnijapaaickifaaW.PrintLast
attribute [local go_sem] max2_int min2_int max_two min_two max_three min_three max_four min_four
set_option linter.unusedVariables false
set_option linter.unusedSimpArgs false

/-! ### blend_of: function 43 -/
/-- The sign that the function of a mode takes. -/
def ofsign (m : Int) : Int := if m = 12 then 1 else -1
/-- The function of a mode on unit values, by the captured sign. -/
def chan.f (x y m s : Int) : Option Int :=
  if m = 1 then num_Mul.f x y else if m = 2 then blend_screen.f x y else if m = 3 then blend_of_1.f x y else if m = 4 ∨ m = 5 then blend_of_2.f x y m else
  if m = 6 then blend_dodge.f x y else if m = 7 then blend_burn.f x y else if m = 8 then blend_hard.f x y else if m = 9 then blend_soft.f 9 x y else
  if m = 10 then blend_of_3.f x y else if m = 11 then blend_of_4.f 9 x y else if m = 12 ∨ m = 13 then blend_of_5.f x y s else blend_of_6.f x y
/-- This function value is the function of the mode in one box, with the sign in the other. -/
structure IsOf (f : FuncId) (caps : Array Value) (gm gs : Nat) (m : Int) : Prop where
  fn : ∃ fn, Try.prog.funcs[f]? = some fn ∧ (fn.name == "runtime.NumGoroutine") = false ∧ fn.body.isSome = true
  does : ∀ (x y s r : Int) (W : World), W.heap[gm]? = some (.cells #[.int .i64 m] 3 (0, 0)) → W.heap[gs]? = some (.cells #[.int .i64 s] 3 (0, 0)) → chan.f x y m s = some r →
    Calls Try.prog f (#[.int .i64 x, .int .i64 y] ++ caps) W fun e w' => e = .returned (.int .i64 r) ∧ Below W.heap.size W w'
theorem IsOf.calls {f : FuncId} {caps : Array Value} {gm gs : Nat} {m0 : Int} (ho : IsOf f caps gm gs m0) (x y m s r : Int) (W : World) (hm : W.heap[gm]? = some (.cells #[.int .i64 m] 3 (0, 0))) (hs : W.heap[gs]? = some (.cells #[.int .i64 s] 3 (0, 0))) (h : chan.f x y m s = some r) (e : m0 = m := by rfl) :
    Calls Try.prog f (#[.int .i64 x, .int .i64 y] ++ caps) W fun e w' => e = .returned (.int .i64 r) ∧ Below W.heap.size W w' := by
  subst e
  exact ho.does x y s r W hm hs h
theorem goesF_ {ops : Array Oper} {Q : Exit → Act → World → Prop} {oi : Oper} {N : Option Tmp} {a : Act} {w : World} {K : Act → World → Prop} {f : FuncId} {caps : Array Value} {gm gs : Nat} {m : Int} {os_ : Array Operand} {ts : Array TypeId} {t : Tmp} (ho : IsOf f caps gm gs m) (args : Array Value)
    (hw : Region.wanted oi (yielded ops a.tmps) = true) (hN : oi.dst = N) (hop : oi.op = .call { callee := .value (.tmp t), args := os_, argTypes := ts }) (hv : a.eval (.tmp t) = .func (.func f) #[] caps) (hargs : os_.map a.eval = args)
    (h : Calls Try.prog f (args ++ caps) w fun e w' => ∃ v, e = .returned v ∧ K (a.put N v) w') : if Region.wanted oi (yielded ops a.tmps) = true then Oper.wp Try.prog oi a w K Q else K (a.put N undef) w := by
  obtain ⟨fn, hf, hn, hb⟩ := ho.fn
  exact goesV_ hf hn hb (args ++ caps) hw hN hop hv (by rw [hargs]) h
theorem goesFL_ {ops : Array Oper} {Q : Exit → Act → World → Prop} {rest : List Oper} {oi : Oper} {a : Act} {w : World} (N : Option Tmp) (hd : oi.dst = N) (hg : oi.guard = none) {f : FuncId} {caps : Array Value} {gm gs : Nat} {m : Int} {os_ : Array Operand} {ts : Array TypeId} {t : Tmp} (ho : IsOf f caps gm gs m) (args : Array Value)
    (hop : oi.op = .call { callee := .value (.tmp t), args := os_, argTypes := ts }) (hv : a.eval (.tmp t) = .func (.func f) #[] caps) (hargs : os_.map a.eval = args)
    (h : Calls Try.prog f (args ++ caps) w fun e w' => ∃ v, e = .returned v ∧ wpList Try.prog ops Q rest (a.put N v) w') : wpList Try.prog ops Q (oi :: rest) a w := by
  obtain ⟨fn, hf, hn, hb⟩ := ho.fn
  exact goesVL_ N hd hg hf hn hb (args ++ caps) hop hv (by rw [hargs]) h
theorem two_boxes (w : World) (A B : Obj) : ((w.alloc A).alloc B).heap[w.heap.size]? = some A ∧ ((w.alloc A).alloc B).heap[w.heap.size + 1]? = some B := by
  refine ⟨blk_alloc (blk_new w A) B, ?_⟩
  have h := blk_new (w.alloc A) B
  rwa [show (w.alloc A).heap.size = w.heap.size + 1 from Array.size_push ..] at h
theorem two_below (w : World) (A B : Obj) : Below w.heap.size w ((w.alloc A).alloc B) := below_alloc (below_alloc (Below.refl _ _) A) B
theorem isof_1 (gm gs : Nat) : IsOf 63 #[] gm gs 1 where
  fn := ⟨_, Try.func63, by kernel_rfl, rfl⟩
  does := fun x y s r W hm hs h => by
    replace h : num_Mul.f x y = some r := by simpa [chan.f] using h
    exact num_Mul.calls x y r W h
theorem isof_2 (gm gs : Nat) : IsOf 68 #[] gm gs 2 where
  fn := ⟨_, Try.func68, by kernel_rfl, rfl⟩
  does := fun x y s r W hm hs h => by
    replace h : blend_screen.f x y = some r := by simpa [chan.f] using h
    exact blend_screen.calls x y r W h
theorem isof_3 (gm gs : Nat) : IsOf 69 #[] gm gs 3 where
  fn := ⟨_, Try.func69, by kernel_rfl, rfl⟩
  does := fun x y s r W hm hs h => by
    replace h : blend_of_1.f x y = some r := by simpa [chan.f] using h
    exact blend_of_1.calls x y r W h
theorem isof_8 (gm gs : Nat) : IsOf 70 #[] gm gs 8 where
  fn := ⟨_, Try.func70, by kernel_rfl, rfl⟩
  does := fun x y s r W hm hs h => by
    replace h : blend_hard.f x y = some r := by simpa [chan.f] using h
    exact blend_hard.calls x y r W h
theorem isof_9 (gm gs : Nat) : IsOf 71 #[] gm gs 9 where
  fn := ⟨_, Try.func71, by kernel_rfl, rfl⟩
  does := fun x y s r W hm hs h => by
    replace h : blend_soft.f 9 x y = some r := by simpa [chan.f] using h
    exact blend_soft.calls 9 x y r W h
theorem isof_6 (gm gs : Nat) : IsOf 72 #[] gm gs 6 where
  fn := ⟨_, Try.func72, by kernel_rfl, rfl⟩
  does := fun x y s r W hm hs h => by
    replace h : blend_dodge.f x y = some r := by simpa [chan.f] using h
    exact blend_dodge.calls x y r W h
theorem isof_7 (gm gs : Nat) : IsOf 73 #[] gm gs 7 where
  fn := ⟨_, Try.func73, by kernel_rfl, rfl⟩
  does := fun x y s r W hm hs h => by
    replace h : blend_burn.f x y = some r := by simpa [chan.f] using h
    exact blend_burn.calls x y r W h
theorem isof_4 (gm gs : Nat) : IsOf 74 #[.pointer (some ⟨gm, 0, none⟩)] gm gs 4 where
  fn := ⟨_, Try.func74, by kernel_rfl, rfl⟩
  does := fun x y s r W hm hs h => by
    replace h : blend_of_2.f x y 4 = some r := by simpa [chan.f] using h
    exact blend_of_2.calls x y 4 r W hm h
theorem isof_5 (gm gs : Nat) : IsOf 74 #[.pointer (some ⟨gm, 0, none⟩)] gm gs 5 where
  fn := ⟨_, Try.func74, by kernel_rfl, rfl⟩
  does := fun x y s r W hm hs h => by
    replace h : blend_of_2.f x y 5 = some r := by simpa [chan.f] using h
    exact blend_of_2.calls x y 5 r W hm h
theorem isof_10 (gm gs : Nat) : IsOf 75 #[] gm gs 10 where
  fn := ⟨_, Try.func75, by kernel_rfl, rfl⟩
  does := fun x y s r W hm hs h => by
    replace h : blend_of_3.f x y = some r := by simpa [chan.f] using h
    exact blend_of_3.calls x y r W h
theorem isof_11 (gm gs : Nat) : IsOf 76 #[] gm gs 11 where
  fn := ⟨_, Try.func76, by kernel_rfl, rfl⟩
  does := fun x y s r W hm hs h => by
    replace h : blend_of_4.f 9 x y = some r := by simpa [chan.f] using h
    exact blend_of_4.calls 9 x y r W h
theorem isof_12 (gm gs : Nat) : IsOf 77 #[.pointer (some ⟨gs, 0, none⟩)] gm gs 12 where
  fn := ⟨_, Try.func77, by kernel_rfl, rfl⟩
  does := fun x y s r W hm hs h => by
    replace h : blend_of_5.f x y s = some r := by simpa [chan.f] using h
    exact blend_of_5.calls x y s r W hs h
theorem isof_13 (gm gs : Nat) : IsOf 77 #[.pointer (some ⟨gs, 0, none⟩)] gm gs 13 where
  fn := ⟨_, Try.func77, by kernel_rfl, rfl⟩
  does := fun x y s r W hm hs h => by
    replace h : blend_of_5.f x y s = some r := by simpa [chan.f] using h
    exact blend_of_5.calls x y s r W hs h
theorem isof_0 (gm gs : Nat) (m : Int) (h1 : m ≠ 1) (h2 : m ≠ 2) (h3 : m ≠ 3) (h4 : m ≠ 4) (h5 : m ≠ 5) (h6 : m ≠ 6) (h7 : m ≠ 7) (h8 : m ≠ 8) (h9 : m ≠ 9) (h10 : m ≠ 10) (h11 : m ≠ 11) (h12 : m ≠ 12) (h13 : m ≠ 13) : IsOf 78 #[] gm gs m where
  fn := ⟨_, Try.func78, by kernel_rfl, rfl⟩
  does := fun x y s r W hm hs h => by
    replace h : blend_of_6.f x y = some r := by simpa [chan.f, h1, h2, h3, h4, h5, h6, h7, h8, h9, h10, h11, h12, h13] using h
    exact (blend_of_6.calls x y r W h).mono fun e w' hh => ⟨hh.1, hh.2.below⟩
set_option maxHeartbeats 4000000 in
set_option maxRecDepth 100000 in
theorem blend_of.calls (mode : Int) (w : World) :
    Calls Try.prog 43 #[.int .i64 mode] w fun e w' => ∃ f caps gm gs, e = .returned (.func (.func f) #[] caps) ∧ IsOf f caps gm gs mode ∧ w'.heap[gm]? = some (.cells #[.int .i64 mode] 3 (0, 0)) ∧ w'.heap[gs]? = some (.cells #[.int .i64 (ofsign mode)] 3 (0, 0)) ∧ w.heap.size ≤ gm ∧ w.heap.size ≤ gs ∧ gm ≠ gs ∧ Below w.heap.size w w' := by
  have hmf : ∀ (fn : Fn) (first cap : Array Value) (w : World), (Instr.makeFunc fn first cap).run Try.prog w = .ok (.func fn first cap) w := fun _ _ _ _ => rfl
  go_enter Try.func43, Try.ntmps43
  go_wp2_with fail
  · obtain rfl : mode = 1 := by simpa using (by assumption : (mode == 1) = true)
    go_ret
    exact ⟨_, _, _, _, rfl, isof_1 _ _, (two_boxes w _ _).1, (two_boxes w _ _).2, Nat.le_refl _, Nat.le_succ _, Nat.ne_of_lt (Nat.lt_succ_self _), two_below w _ _⟩
  · obtain rfl : mode = 2 := by simpa using (by assumption : (mode == 2) = true)
    go_ret
    exact ⟨_, _, _, _, rfl, isof_2 _ _, (two_boxes w _ _).1, (two_boxes w _ _).2, Nat.le_refl _, Nat.le_succ _, Nat.ne_of_lt (Nat.lt_succ_self _), two_below w _ _⟩
  · obtain rfl : mode = 3 := by simpa using (by assumption : (mode == 3) = true)
    go_ret
    exact ⟨_, _, _, _, rfl, isof_3 _ _, (two_boxes w _ _).1, (two_boxes w _ _).2, Nat.le_refl _, Nat.le_succ _, Nat.ne_of_lt (Nat.lt_succ_self _), two_below w _ _⟩
  · obtain rfl : mode = 8 := by simpa using (by assumption : (mode == 8) = true)
    go_ret
    exact ⟨_, _, _, _, rfl, isof_8 _ _, (two_boxes w _ _).1, (two_boxes w _ _).2, Nat.le_refl _, Nat.le_succ _, Nat.ne_of_lt (Nat.lt_succ_self _), two_below w _ _⟩
  · obtain rfl : mode = 9 := by simpa using (by assumption : (mode == 9) = true)
    go_ret
    exact ⟨_, _, _, _, rfl, isof_9 _ _, (two_boxes w _ _).1, (two_boxes w _ _).2, Nat.le_refl _, Nat.le_succ _, Nat.ne_of_lt (Nat.lt_succ_self _), two_below w _ _⟩
  · obtain rfl : mode = 6 := by simpa using (by assumption : (mode == 6) = true)
    go_ret
    exact ⟨_, _, _, _, rfl, isof_6 _ _, (two_boxes w _ _).1, (two_boxes w _ _).2, Nat.le_refl _, Nat.le_succ _, Nat.ne_of_lt (Nat.lt_succ_self _), two_below w _ _⟩
  · obtain rfl : mode = 7 := by simpa using (by assumption : (mode == 7) = true)
    go_ret
    exact ⟨_, _, _, _, rfl, isof_7 _ _, (two_boxes w _ _).1, (two_boxes w _ _).2, Nat.le_refl _, Nat.le_succ _, Nat.ne_of_lt (Nat.lt_succ_self _), two_below w _ _⟩
  · obtain rfl : mode = 4 := by simpa using (by assumption : (mode == 4) = true)
    go_ret
    exact ⟨_, _, _, _, rfl, isof_4 _ _, (two_boxes w _ _).1, (two_boxes w _ _).2, Nat.le_refl _, Nat.le_succ _, Nat.ne_of_lt (Nat.lt_succ_self _), two_below w _ _⟩
  · obtain rfl : mode = 5 := by simpa using (by assumption : (mode == 5) = true)
    go_ret
    exact ⟨_, _, _, _, rfl, isof_5 _ _, (two_boxes w _ _).1, (two_boxes w _ _).2, Nat.le_refl _, Nat.le_succ _, Nat.ne_of_lt (Nat.lt_succ_self _), two_below w _ _⟩
  · obtain rfl : mode = 10 := by simpa using (by assumption : (mode == 10) = true)
    go_ret
    exact ⟨_, _, _, _, rfl, isof_10 _ _, (two_boxes w _ _).1, (two_boxes w _ _).2, Nat.le_refl _, Nat.le_succ _, Nat.ne_of_lt (Nat.lt_succ_self _), two_below w _ _⟩
  · obtain rfl : mode = 11 := by simpa using (by assumption : (mode == 11) = true)
    go_ret
    exact ⟨_, _, _, _, rfl, isof_11 _ _, (two_boxes w _ _).1, (two_boxes w _ _).2, Nat.le_refl _, Nat.le_succ _, Nat.ne_of_lt (Nat.lt_succ_self _), two_below w _ _⟩
  · obtain rfl : mode = 12 := by simpa using (by assumption : (mode == 12) = true)
    go_ret
    exact ⟨_, _, _, _, rfl, isof_12 _ _, (two_boxes w _ _).1, (two_boxes w _ _).2, Nat.le_refl _, Nat.le_succ _, Nat.ne_of_lt (Nat.lt_succ_self _), two_below w _ _⟩
  · obtain rfl : mode = 13 := by simpa using (by assumption : (mode == 13) = true)
    go_ret
    exact ⟨_, _, _, _, rfl, isof_13 _ _, (two_boxes w _ _).1, (two_boxes w _ _).2, Nat.le_refl _, Nat.le_succ _, Nat.ne_of_lt (Nat.lt_succ_self _), two_below w _ _⟩
  · go_ret
    have hz : ∀ n : Int, (mode == n) = false → mode ≠ n := fun n h => beq_eq_false_iff_ne.mp h
    have hs : ofsign mode = -1 := if_neg (hz 12 (by assumption))
    exact ⟨_, _, _, _, rfl, isof_0 _ _ mode (hz 1 (by assumption)) (hz 2 (by assumption)) (hz 3 (by assumption)) (hz 4 (by assumption)) (hz 5 (by assumption)) (hz 6 (by assumption)) (hz 7 (by assumption)) (hz 8 (by assumption)) (hz 9 (by assumption)) (hz 10 (by assumption)) (hz 11 (by assumption)) (hz 12 (by assumption)) (hz 13 (by assumption)), (two_boxes w _ _).1, by rw [hs]; exact (two_boxes w _ _).2, Nat.le_refl _, Nat.le_succ _, Nat.ne_of_lt (Nat.lt_succ_self _), two_below w _ _⟩

end Go.Proofs.Ytnijapaaickifaa.I
