/-
  'MeterTicks': every meter's answers are the document's.
-/
import Derived.Test.YtfmcmcbckhmfaaaAbOpen
import Derived.Test.YtfmcmcbckhmfaaaFacts
namespace Go.Proofs.Ytfmcmcbckhmfaaa.Ab
open Go Go.RowKit Go.WideShapes Go.ChangeShapes Go.ChangeAt
set_option linter.unusedSimpArgs false
set_option linter.unusedVariables false
def allowance (x : Int) : Int := if IntKind.i64.wrap (x.tdiv 5) > 1 then IntKind.i64.wrap (x.tdiv 5) else 1
def meterNew (all time : Int) : Meter := ⟨allowance all, IntKind.i64.wrap (time + 10)⟩
def meterTick (m : Meter) (all time : Int) : Meter := if time ≥ m.Next then meterNew all time else m
def meterTake (m : Meter) (n : Int) : Meter × Bool := if m.Left ≤ 0 then (m, false) else (⟨IntKind.i64.wrap (m.Left - n), m.Next⟩, true)
def rAllowance (x : Int) : Int := if x < 5 then 1 else IntKind.i64.wrap (x.tdiv 5)
def rNewMeter (all time : Int) : Meter := ⟨rAllowance all, IntKind.i64.wrap (time + 10)⟩
def rTickMeter (m : Meter) (all time : Int) : Meter := if m.Next > time then m else rNewMeter all time
def rTakeMeter (m : Meter) (n : Int) : Meter × Bool := if m.Left < 1 then (m, false) else (⟨IntKind.i64.wrap (m.Left - n), m.Next⟩, true)
def yes4 (_ : Meter) (_ _ _ : Int) : Bool := true
theorem rAllowance_eq {x : Int} (h : i64 x) : rAllowance x = allowance x := by
  unfold rAllowance allowance
  rcases Int.le_total 0 x with hx | hx
  · have hw : IntKind.i64.wrap (x.tdiv 5) = x / 5 := by rw [tdiv_nn hx]; exact wrap_in (by unfold i64 at *; omega)
    rw [hw]; split <;> split <;> omega
  · have hw : IntKind.i64.wrap (x.tdiv 5) = -((-x) / 5) := by rw [tdiv_np hx]; exact wrap_in (by unfold i64 at *; omega)
    rw [hw]; split <;> split <;> omega
theorem rNewMeter_eq {a t : Int} (h : i64 a) : rNewMeter a t = meterNew a t := by unfold rNewMeter meterNew; rw [rAllowance_eq h]
theorem rTickMeter_eq {m : Meter} {a t : Int} (h : i64 a) : rTickMeter m a t = meterTick m a t := by
  unfold rTickMeter meterTick; rw [rNewMeter_eq h]; split <;> split <;> first | rfl | omega
theorem rTakeMeter_eq {m : Meter} {n : Int} : rTakeMeter m n = meterTake m n := by
  unfold rTakeMeter meterTake; split <;> split <;> first | rfl | omega
def ok_Meter (m : Meter) : Prop := i64 m.Left ∧ i64 m.Next
def F28 : Spec := spec1 intP (fun a0 => ⟨[], .val (.int .i64 ((allowance a0)))⟩)
theorem ok28 : SpecOk Try.prog 28 F28 := by
  have hY : (Env.mk Try.prog (look [])).Ok := look_ok (P := Try.prog) (l := []) trivial
  refine spec1_ok (Y := Env.mk Try.prog (look [])) 0 Try.func28 rfl (fun _ => by kernel_rfl) (fun a0 hob G => ?_)
  refine Wp_eq (st' := ⟨mk 6 [(0, .val (.int .i64 a0))], []⟩) (by kernel_rfl) ?_
  refine Wp_seq ?_
  refine Wp_reg hY [] (fun _ => 0) [] (ob := []) (st' := ⟨mk 6 [(0, .val (.int .i64 a0)), (2, .val (.int .i64 0))], []⟩) (by kernel_rfl) trivial ?_
  refine Wp_seq ?_
  refine Wp_reg hY [] (fun _ => 0) [0, 3, 4, 5] (ob := []) (st' := ⟨mk 6 [(2, .val (.int .i64 (if (IntKind.i64.wrap (Int.tdiv a0 5)) > 1 then (IntKind.i64.wrap (Int.tdiv a0 5)) else 1)))], []⟩) (by kernel_rfl) trivial ?_
  refine Wp_ret ?_
  exact ⟨[.val (.int .i64 (if (IntKind.i64.wrap (Int.tdiv a0 5)) > 1 then (IntKind.i64.wrap (Int.tdiv a0 5)) else 1))], by kernel_rfl, by rfl⟩

def F30 : Spec := spec2 intP intP (fun a0 a1 => ⟨[], .agg [.val (.int .i64 (((meterNew a0 a1)).Left)), .val (.int .i64 (((meterNew a0 a1)).Next))]⟩)
theorem ok30 : SpecOk Try.prog 30 F30 := by
  have hY : (Env.mk Try.prog (look [(28, F28)])).Ok := look_ok (P := Try.prog) (l := [(28, F28)]) ⟨ok28, trivial⟩
  refine spec2_ok (Y := Env.mk Try.prog (look [(28, F28)])) 1 Try.func30 rfl (fun _ _ => by kernel_rfl) (fun a0 a1 hob G => ?_)
  refine Wp_eq (st' := ⟨mk 10 [(0, .val (.int .i64 a0)), (1, .val (.int .i64 a1))], [.free]⟩) (by kernel_rfl) ?_
  refine Wp_seq ?_
  refine Wp_reg hY [] (nth [0]) [] (ob := []) (st' := ⟨mk 10 [(0, .val (.int .i64 a0)), (1, .val (.int .i64 a1)), (4, .ptr 0 0)], [.cells 24 [.val (.int .i64 0), .val (.int .i64 0)]]⟩) (by kernel_rfl) trivial ?_
  refine Wp_seq ?_
  refine Wp_reg hY [] (fun _ => 0) [0, 1, 5, 6, 7, 8, 9] (ob := []) (st' := ⟨mk 10 [(4, .ptr 0 0)], [.cells 24 [.val (.int .i64 ((allowance a0))), .val (.int .i64 (IntKind.i64.wrap (a1 + 10)))]]⟩) (by kernel_rfl) trivial ?_
  refine Wp_ret ?_
  exact ⟨[.agg [.val (.int .i64 ((allowance a0))), .val (.int .i64 (IntKind.i64.wrap (a1 + 10)))]], by kernel_rfl, by rfl⟩

def F32 : Spec := spec3 meterP intP intP (fun a0 a1 a2 => ⟨[], .agg [.val (.int .i64 (((meterTick a0 a1 a2)).Left)), .val (.int .i64 (((meterTick a0 a1 a2)).Next))]⟩)
theorem ok32 : SpecOk Try.prog 32 F32 := by
  have hY : (Env.mk Try.prog (look [(30, F30)])).Ok := look_ok (P := Try.prog) (l := [(30, F30)]) ⟨ok30, trivial⟩
  refine spec3_ok (Y := Env.mk Try.prog (look [(30, F30)])) 2 Try.func32 rfl (fun _ _ _ => by kernel_rfl) (fun a0 a1 a2 hob G => ?_)
  refine Wp_eq (st' := ⟨mk 15 [(0, .agg [.val (.int .i64 a0.Left), .val (.int .i64 a0.Next)]), (1, .val (.int .i64 a1)), (2, .val (.int .i64 a2))], [.free, .free]⟩) (by kernel_rfl) ?_
  refine Wp_seq ?_
  refine Wp_reg hY [] (nth [0, 1]) [0] (ob := []) (st' := ⟨mk 15 [(1, .val (.int .i64 a1)), (2, .val (.int .i64 a2)), (3, .ptr 0 0), (6, .ptr 1 0)], [.cells 24 [.val (.int .i64 a0.Left), .val (.int .i64 a0.Next)], .cells 24 [.val (.int .i64 0), .val (.int .i64 0)]]⟩) (by kernel_rfl) trivial ?_
  refine Wp_seq ?_
  refine Wp_seq ?_
  refine Wp_reg hY [] (fun _ => 0) [7, 8, 9] (ob := []) (st' := ⟨mk 15 [(1, .val (.int .i64 a1)), (2, .val (.int .i64 a2)), (3, .ptr 0 0), (6, .ptr 1 0), (10, .val (.bool (decide (a2 ≥ a0.Next))))], [.cells 24 [.val (.int .i64 a0.Left), .val (.int .i64 a0.Next)], .cells 24 [.val (.int .i64 0), .val (.int .i64 0)]]⟩) (by kernel_rfl) trivial ?_
  refine Wp_cond (decide (a2 ≥ a0.Next)) (by kernel_rfl) (fun h1 => ?_) (fun h1 => ?_)
  · refine Wp_seq ?_
    refine Wp_reg hY [] (fun _ => 0) [1, 11, 12, 13] (ob := []) (st' := ⟨mk 15 [(2, .val (.int .i64 a2)), (3, .ptr 0 0), (6, .ptr 1 0), (10, .val (.bool (decide (a2 ≥ a0.Next))))], [.cells 24 [.val (.int .i64 a0.Left), .val (.int .i64 a0.Next)], .cells 24 [.val (.int .i64 (((meterNew a1 a2)).Left)), .val (.int .i64 (((meterNew a1 a2)).Next))]]⟩) (by kernel_rfl) trivial ?_
    refine Wp_ret ?_
    exact ⟨[.agg [.val (.int .i64 (((meterNew a1 a2)).Left)), .val (.int .i64 (((meterNew a1 a2)).Next))]], by kernel_rfl, by (first | rfl | (clear hY hob; try simp only [decide_eq_true_eq, decide_eq_false_iff_not, Bool.or_eq_true, Bool.and_eq_true, Bool.or_eq_false_iff, beq_iff_eq, bne_iff_ne, beq_eq_false_iff_ne, bne_eq_false_iff_eq, Bool.not_eq_true, Bool.not_eq_false, Bool.not_eq_eq_eq_not, Bool.not_true, Bool.not_false] at *; simp only [meterTick, tuple]; (repeat' split) <;> first | rfl | (exfalso; omega) | (simp_all; done) | (simp_all; omega)))⟩
  · refine Wp_skip ?_
    refine Wp_seq ?_
    refine Wp_reg hY [] (fun _ => 0) [14] (ob := []) (st' := ⟨mk 15 [(1, .val (.int .i64 a1)), (2, .val (.int .i64 a2)), (3, .ptr 0 0), (6, .ptr 1 0), (10, .val (.bool (decide (a2 ≥ a0.Next))))], [.cells 24 [.val (.int .i64 a0.Left), .val (.int .i64 a0.Next)], .cells 24 [.val (.int .i64 a0.Left), .val (.int .i64 a0.Next)]]⟩) (by kernel_rfl) trivial ?_
    refine Wp_ret ?_
    exact ⟨[.agg [.val (.int .i64 a0.Left), .val (.int .i64 a0.Next)]], by kernel_rfl, by (first | rfl | (clear hY hob; try simp only [decide_eq_true_eq, decide_eq_false_iff_not, Bool.or_eq_true, Bool.and_eq_true, Bool.or_eq_false_iff, beq_iff_eq, bne_iff_ne, beq_eq_false_iff_ne, bne_eq_false_iff_eq, Bool.not_eq_true, Bool.not_eq_false, Bool.not_eq_eq_eq_not, Bool.not_true, Bool.not_false] at *; simp only [meterTick, tuple]; (repeat' split) <;> first | rfl | (exfalso; omega) | (simp_all; done) | (simp_all; omega)))⟩

def F26 : Spec := spec2 meterP intP (fun a0 a1 => ⟨[], .tup [.agg [.val (.int .i64 (((meterTake a0 a1).1).Left)), .val (.int .i64 (((meterTake a0 a1).1).Next))], .val (.bool ((meterTake a0 a1).2))]⟩)
theorem ok26 : SpecOk Try.prog 26 F26 := by
  have hY : (Env.mk Try.prog (look [])).Ok := look_ok (P := Try.prog) (l := []) trivial
  refine spec2_ok (Y := Env.mk Try.prog (look [])) 2 Try.func26 rfl (fun _ _ => by kernel_rfl) (fun a0 a1 hob G => ?_)
  refine Wp_eq (st' := ⟨mk 16 [(0, .agg [.val (.int .i64 a0.Left), .val (.int .i64 a0.Next)]), (1, .val (.int .i64 a1))], [.free, .free]⟩) (by kernel_rfl) ?_
  refine Wp_seq ?_
  refine Wp_reg hY [] (nth [0, 1]) [0] (ob := []) (st' := ⟨mk 16 [(1, .val (.int .i64 a1)), (2, .ptr 0 0), (4, .ptr 1 0), (5, .val (.bool false))], [.cells 24 [.val (.int .i64 a0.Left), .val (.int .i64 a0.Next)], .cells 24 [.val (.int .i64 0), .val (.int .i64 0)]]⟩) (by kernel_rfl) trivial ?_
  refine Wp_seq ?_
  refine Wp_seq ?_
  refine Wp_reg hY [] (fun _ => 0) [6, 7] (ob := []) (st' := ⟨mk 16 [(1, .val (.int .i64 a1)), (2, .ptr 0 0), (4, .ptr 1 0), (5, .val (.bool false)), (8, .val (.bool (decide (a0.Left ≤ 0))))], [.cells 24 [.val (.int .i64 a0.Left), .val (.int .i64 a0.Next)], .cells 24 [.val (.int .i64 0), .val (.int .i64 0)]]⟩) (by kernel_rfl) trivial ?_
  refine Wp_cond (decide (a0.Left ≤ 0)) (by kernel_rfl) (fun h1 => ?_) (fun h1 => ?_)
  · refine Wp_seq ?_
    refine Wp_reg hY [] (fun _ => 0) [9] (ob := []) (st' := ⟨mk 16 [(1, .val (.int .i64 a1)), (2, .ptr 0 0), (4, .ptr 1 0), (5, .val (.bool false)), (8, .val (.bool (decide (a0.Left ≤ 0))))], [.cells 24 [.val (.int .i64 a0.Left), .val (.int .i64 a0.Next)], .cells 24 [.val (.int .i64 a0.Left), .val (.int .i64 a0.Next)]]⟩) (by kernel_rfl) trivial ?_
    refine Wp_ret ?_
    exact ⟨[.agg [.val (.int .i64 a0.Left), .val (.int .i64 a0.Next)], .val (.bool false)], by kernel_rfl, by (first | rfl | (clear hY hob; try simp only [decide_eq_true_eq, decide_eq_false_iff_not, Bool.or_eq_true, Bool.and_eq_true, Bool.or_eq_false_iff, beq_iff_eq, bne_iff_ne, beq_eq_false_iff_ne, bne_eq_false_iff_eq, Bool.not_eq_true, Bool.not_eq_false, Bool.not_eq_eq_eq_not, Bool.not_true, Bool.not_false] at *; simp only [meterTake, tuple]; (repeat' split) <;> first | rfl | (exfalso; omega) | (simp_all; done) | (simp_all; omega)))⟩
  · refine Wp_skip ?_
    refine Wp_seq ?_
    refine Wp_reg hY [] (fun _ => 0) [1, 10, 11, 12, 13, 14] (ob := []) (st' := ⟨mk 16 [(2, .ptr 0 0), (4, .ptr 1 0), (5, .val (.bool false)), (8, .val (.bool (decide (a0.Left ≤ 0))))], [.cells 24 [.val (.int .i64 (IntKind.i64.wrap (a0.Left - a1))), .val (.int .i64 a0.Next)], .cells 24 [.val (.int .i64 0), .val (.int .i64 0)]]⟩) (by kernel_rfl) trivial ?_
    refine Wp_seq ?_
    refine Wp_reg hY [] (fun _ => 0) [15] (ob := []) (st' := ⟨mk 16 [(2, .ptr 0 0), (4, .ptr 1 0), (5, .val (.bool true)), (8, .val (.bool (decide (a0.Left ≤ 0))))], [.cells 24 [.val (.int .i64 (IntKind.i64.wrap (a0.Left - a1))), .val (.int .i64 a0.Next)], .cells 24 [.val (.int .i64 (IntKind.i64.wrap (a0.Left - a1))), .val (.int .i64 a0.Next)]]⟩) (by kernel_rfl) trivial ?_
    refine Wp_ret ?_
    exact ⟨[.agg [.val (.int .i64 (IntKind.i64.wrap (a0.Left - a1))), .val (.int .i64 a0.Next)], .val (.bool true)], by kernel_rfl, by (first | rfl | (clear hY hob; try simp only [decide_eq_true_eq, decide_eq_false_iff_not, Bool.or_eq_true, Bool.and_eq_true, Bool.or_eq_false_iff, beq_iff_eq, bne_iff_ne, beq_eq_false_iff_ne, bne_eq_false_iff_eq, Bool.not_eq_true, Bool.not_eq_false, Bool.not_eq_eq_eq_not, Bool.not_true, Bool.not_false] at *; simp only [meterTake, tuple]; (repeat' split) <;> first | rfl | (exfalso; omega) | (simp_all; done) | (simp_all; omega)))⟩

def F29 : Spec := spec1 intP (fun a0 => ⟨[], .val (.int .i64 ((rAllowance a0)))⟩)
theorem ok29 : SpecOk Try.prog 29 F29 := by
  have hY : (Env.mk Try.prog (look [])).Ok := look_ok (P := Try.prog) (l := []) trivial
  refine spec1_ok (Y := Env.mk Try.prog (look [])) 0 Try.func29 rfl (fun _ => by kernel_rfl) (fun a0 hob G => ?_)
  refine Wp_eq (st' := ⟨mk 7 [(0, .val (.int .i64 a0))], []⟩) (by kernel_rfl) ?_
  refine Wp_seq ?_
  refine Wp_reg hY [] (fun _ => 0) [] (ob := []) (st' := ⟨mk 7 [(0, .val (.int .i64 a0)), (2, .val (.int .i64 0))], []⟩) (by kernel_rfl) trivial ?_
  refine Wp_seq ?_
  refine Wp_seq ?_
  refine Wp_reg hY [] (fun _ => 0) [3] (ob := []) (st' := ⟨mk 7 [(0, .val (.int .i64 a0)), (2, .val (.int .i64 0)), (4, .val (.bool (decide (a0 < 5))))], []⟩) (by kernel_rfl) trivial ?_
  refine Wp_cond (decide (a0 < 5)) (by kernel_rfl) (fun h1 => ?_) (fun h1 => ?_)
  · refine Wp_seq ?_
    refine Wp_reg hY [] (fun _ => 0) [] (ob := []) (st' := ⟨mk 7 [(0, .val (.int .i64 a0)), (2, .val (.int .i64 1)), (4, .val (.bool (decide (a0 < 5))))], []⟩) (by kernel_rfl) trivial ?_
    refine Wp_ret ?_
    exact ⟨[.val (.int .i64 1)], by kernel_rfl, by (first | rfl | (clear hY hob; try simp only [decide_eq_true_eq, decide_eq_false_iff_not, Bool.or_eq_true, Bool.and_eq_true, Bool.or_eq_false_iff, beq_iff_eq, bne_iff_ne, beq_eq_false_iff_ne, bne_eq_false_iff_eq, Bool.not_eq_true, Bool.not_eq_false, Bool.not_eq_eq_eq_not, Bool.not_true, Bool.not_false] at *; simp only [rAllowance, tuple]; (repeat' split) <;> first | rfl | (exfalso; omega) | (simp_all; done) | (simp_all; omega)))⟩
  · refine Wp_skip ?_
    refine Wp_seq ?_
    refine Wp_reg hY [] (fun _ => 0) [5, 6] (ob := []) (st' := ⟨mk 7 [(0, .val (.int .i64 a0)), (2, .val (.int .i64 (IntKind.i64.wrap (Int.tdiv a0 5)))), (4, .val (.bool (decide (a0 < 5))))], []⟩) (by kernel_rfl) trivial ?_
    refine Wp_ret ?_
    exact ⟨[.val (.int .i64 (IntKind.i64.wrap (Int.tdiv a0 5)))], by kernel_rfl, by (first | rfl | (clear hY hob; try simp only [decide_eq_true_eq, decide_eq_false_iff_not, Bool.or_eq_true, Bool.and_eq_true, Bool.or_eq_false_iff, beq_iff_eq, bne_iff_ne, beq_eq_false_iff_ne, bne_eq_false_iff_eq, Bool.not_eq_true, Bool.not_eq_false, Bool.not_eq_eq_eq_not, Bool.not_true, Bool.not_false] at *; simp only [rAllowance, tuple]; (repeat' split) <;> first | rfl | (exfalso; omega) | (simp_all; done) | (simp_all; omega)))⟩

def F31 : Spec := spec2 intP intP (fun a0 a1 => ⟨[], .agg [.val (.int .i64 (((rNewMeter a0 a1)).Left)), .val (.int .i64 (((rNewMeter a0 a1)).Next))]⟩)
theorem ok31 : SpecOk Try.prog 31 F31 := by
  have hY : (Env.mk Try.prog (look [(29, F29)])).Ok := look_ok (P := Try.prog) (l := [(29, F29)]) ⟨ok29, trivial⟩
  refine spec2_ok (Y := Env.mk Try.prog (look [(29, F29)])) 1 Try.func31 rfl (fun _ _ => by kernel_rfl) (fun a0 a1 hob G => ?_)
  refine Wp_eq (st' := ⟨mk 10 [(0, .val (.int .i64 a0)), (1, .val (.int .i64 a1))], [.free]⟩) (by kernel_rfl) ?_
  refine Wp_seq ?_
  refine Wp_reg hY [] (nth [0]) [] (ob := []) (st' := ⟨mk 10 [(0, .val (.int .i64 a0)), (1, .val (.int .i64 a1)), (4, .ptr 0 0)], [.cells 24 [.val (.int .i64 0), .val (.int .i64 0)]]⟩) (by kernel_rfl) trivial ?_
  refine Wp_seq ?_
  refine Wp_reg hY [] (fun _ => 0) [0, 1, 5, 6, 7, 8, 9] (ob := []) (st' := ⟨mk 10 [(4, .ptr 0 0)], [.cells 24 [.val (.int .i64 ((rAllowance a0))), .val (.int .i64 (IntKind.i64.wrap (a1 + 10)))]]⟩) (by kernel_rfl) trivial ?_
  refine Wp_ret ?_
  exact ⟨[.agg [.val (.int .i64 ((rAllowance a0))), .val (.int .i64 (IntKind.i64.wrap (a1 + 10)))]], by kernel_rfl, by (first | rfl | (clear hY hob; try simp only [decide_eq_true_eq, decide_eq_false_iff_not, Bool.or_eq_true, Bool.and_eq_true, Bool.or_eq_false_iff, beq_iff_eq, bne_iff_ne, beq_eq_false_iff_ne, bne_eq_false_iff_eq, Bool.not_eq_true, Bool.not_eq_false, Bool.not_eq_eq_eq_not, Bool.not_true, Bool.not_false] at *; simp only [rNewMeter, tuple]; (repeat' split) <;> first | rfl | (exfalso; omega) | (simp_all; done) | (simp_all; omega)))⟩

def F33 : Spec := spec3 meterP intP intP (fun a0 a1 a2 => ⟨[], .agg [.val (.int .i64 (((rTickMeter a0 a1 a2)).Left)), .val (.int .i64 (((rTickMeter a0 a1 a2)).Next))]⟩)
theorem ok33 : SpecOk Try.prog 33 F33 := by
  have hY : (Env.mk Try.prog (look [(31, F31)])).Ok := look_ok (P := Try.prog) (l := [(31, F31)]) ⟨ok31, trivial⟩
  refine spec3_ok (Y := Env.mk Try.prog (look [(31, F31)])) 2 Try.func33 rfl (fun _ _ _ => by kernel_rfl) (fun a0 a1 a2 hob G => ?_)
  refine Wp_eq (st' := ⟨mk 15 [(0, .agg [.val (.int .i64 a0.Left), .val (.int .i64 a0.Next)]), (1, .val (.int .i64 a1)), (2, .val (.int .i64 a2))], [.free, .free]⟩) (by kernel_rfl) ?_
  refine Wp_seq ?_
  refine Wp_reg hY [] (nth [0, 1]) [0] (ob := []) (st' := ⟨mk 15 [(1, .val (.int .i64 a1)), (2, .val (.int .i64 a2)), (3, .ptr 0 0), (6, .ptr 1 0)], [.cells 24 [.val (.int .i64 a0.Left), .val (.int .i64 a0.Next)], .cells 24 [.val (.int .i64 0), .val (.int .i64 0)]]⟩) (by kernel_rfl) trivial ?_
  refine Wp_seq ?_
  refine Wp_seq ?_
  refine Wp_reg hY [] (fun _ => 0) [7, 8, 9] (ob := []) (st' := ⟨mk 15 [(1, .val (.int .i64 a1)), (2, .val (.int .i64 a2)), (3, .ptr 0 0), (6, .ptr 1 0), (10, .val (.bool (decide (a0.Next > a2))))], [.cells 24 [.val (.int .i64 a0.Left), .val (.int .i64 a0.Next)], .cells 24 [.val (.int .i64 0), .val (.int .i64 0)]]⟩) (by kernel_rfl) trivial ?_
  refine Wp_cond (decide (a0.Next > a2)) (by kernel_rfl) (fun h1 => ?_) (fun h1 => ?_)
  · refine Wp_seq ?_
    refine Wp_reg hY [] (fun _ => 0) [11] (ob := []) (st' := ⟨mk 15 [(1, .val (.int .i64 a1)), (2, .val (.int .i64 a2)), (3, .ptr 0 0), (6, .ptr 1 0), (10, .val (.bool (decide (a0.Next > a2))))], [.cells 24 [.val (.int .i64 a0.Left), .val (.int .i64 a0.Next)], .cells 24 [.val (.int .i64 a0.Left), .val (.int .i64 a0.Next)]]⟩) (by kernel_rfl) trivial ?_
    refine Wp_ret ?_
    exact ⟨[.agg [.val (.int .i64 a0.Left), .val (.int .i64 a0.Next)]], by kernel_rfl, by (first | rfl | (clear hY hob; try simp only [decide_eq_true_eq, decide_eq_false_iff_not, Bool.or_eq_true, Bool.and_eq_true, Bool.or_eq_false_iff, beq_iff_eq, bne_iff_ne, beq_eq_false_iff_ne, bne_eq_false_iff_eq, Bool.not_eq_true, Bool.not_eq_false, Bool.not_eq_eq_eq_not, Bool.not_true, Bool.not_false] at *; simp only [rTickMeter, tuple]; (repeat' split) <;> first | rfl | (exfalso; omega) | (simp_all; done) | (simp_all; omega)))⟩
  · refine Wp_skip ?_
    refine Wp_seq ?_
    refine Wp_reg hY [] (fun _ => 0) [1, 12, 13, 14] (ob := []) (st' := ⟨mk 15 [(2, .val (.int .i64 a2)), (3, .ptr 0 0), (6, .ptr 1 0), (10, .val (.bool (decide (a0.Next > a2))))], [.cells 24 [.val (.int .i64 a0.Left), .val (.int .i64 a0.Next)], .cells 24 [.val (.int .i64 (((rNewMeter a1 a2)).Left)), .val (.int .i64 (((rNewMeter a1 a2)).Next))]]⟩) (by kernel_rfl) trivial ?_
    refine Wp_ret ?_
    exact ⟨[.agg [.val (.int .i64 (((rNewMeter a1 a2)).Left)), .val (.int .i64 (((rNewMeter a1 a2)).Next))]], by kernel_rfl, by (first | rfl | (clear hY hob; try simp only [decide_eq_true_eq, decide_eq_false_iff_not, Bool.or_eq_true, Bool.and_eq_true, Bool.or_eq_false_iff, beq_iff_eq, bne_iff_ne, beq_eq_false_iff_ne, bne_eq_false_iff_eq, Bool.not_eq_true, Bool.not_eq_false, Bool.not_eq_eq_eq_not, Bool.not_true, Bool.not_false] at *; simp only [rTickMeter, tuple]; (repeat' split) <;> first | rfl | (exfalso; omega) | (simp_all; done) | (simp_all; omega)))⟩

def F27 : Spec := spec2 meterP intP (fun a0 a1 => ⟨[], .tup [.agg [.val (.int .i64 (((rTakeMeter a0 a1).1).Left)), .val (.int .i64 (((rTakeMeter a0 a1).1).Next))], .val (.bool ((rTakeMeter a0 a1).2))]⟩)
theorem ok27 : SpecOk Try.prog 27 F27 := by
  have hY : (Env.mk Try.prog (look [])).Ok := look_ok (P := Try.prog) (l := []) trivial
  refine spec2_ok (Y := Env.mk Try.prog (look [])) 2 Try.func27 rfl (fun _ _ => by kernel_rfl) (fun a0 a1 hob G => ?_)
  refine Wp_eq (st' := ⟨mk 17 [(0, .agg [.val (.int .i64 a0.Left), .val (.int .i64 a0.Next)]), (1, .val (.int .i64 a1))], [.free, .free]⟩) (by kernel_rfl) ?_
  refine Wp_seq ?_
  refine Wp_reg hY [] (nth [0, 1]) [0] (ob := []) (st' := ⟨mk 17 [(1, .val (.int .i64 a1)), (2, .ptr 0 0), (4, .ptr 1 0), (5, .val (.bool false))], [.cells 24 [.val (.int .i64 a0.Left), .val (.int .i64 a0.Next)], .cells 24 [.val (.int .i64 0), .val (.int .i64 0)]]⟩) (by kernel_rfl) trivial ?_
  refine Wp_seq ?_
  refine Wp_seq ?_
  refine Wp_reg hY [] (fun _ => 0) [6, 7] (ob := []) (st' := ⟨mk 17 [(1, .val (.int .i64 a1)), (2, .ptr 0 0), (4, .ptr 1 0), (5, .val (.bool false)), (8, .val (.bool (decide (a0.Left < 1))))], [.cells 24 [.val (.int .i64 a0.Left), .val (.int .i64 a0.Next)], .cells 24 [.val (.int .i64 0), .val (.int .i64 0)]]⟩) (by kernel_rfl) trivial ?_
  refine Wp_cond (decide (a0.Left < 1)) (by kernel_rfl) (fun h1 => ?_) (fun h1 => ?_)
  · refine Wp_seq ?_
    refine Wp_reg hY [] (fun _ => 0) [9] (ob := []) (st' := ⟨mk 17 [(1, .val (.int .i64 a1)), (2, .ptr 0 0), (4, .ptr 1 0), (5, .val (.bool false)), (8, .val (.bool (decide (a0.Left < 1))))], [.cells 24 [.val (.int .i64 a0.Left), .val (.int .i64 a0.Next)], .cells 24 [.val (.int .i64 a0.Left), .val (.int .i64 a0.Next)]]⟩) (by kernel_rfl) trivial ?_
    refine Wp_ret ?_
    exact ⟨[.agg [.val (.int .i64 a0.Left), .val (.int .i64 a0.Next)], .val (.bool false)], by kernel_rfl, by (first | rfl | (clear hY hob; try simp only [decide_eq_true_eq, decide_eq_false_iff_not, Bool.or_eq_true, Bool.and_eq_true, Bool.or_eq_false_iff, beq_iff_eq, bne_iff_ne, beq_eq_false_iff_ne, bne_eq_false_iff_eq, Bool.not_eq_true, Bool.not_eq_false, Bool.not_eq_eq_eq_not, Bool.not_true, Bool.not_false] at *; simp only [rTakeMeter, tuple]; (repeat' split) <;> first | rfl | (exfalso; omega) | (simp_all; done) | (simp_all; omega)))⟩
  · refine Wp_skip ?_
    refine Wp_seq ?_
    refine Wp_reg hY [] (fun _ => 0) [1, 10, 11, 12, 13, 14, 15, 16] (ob := []) (st' := ⟨mk 17 [(2, .ptr 0 0), (4, .ptr 1 0), (5, .val (.bool true)), (8, .val (.bool (decide (a0.Left < 1))))], [.cells 24 [.val (.int .i64 a0.Left), .val (.int .i64 a0.Next)], .cells 24 [.val (.int .i64 (IntKind.i64.wrap (a0.Left - a1))), .val (.int .i64 a0.Next)]]⟩) (by kernel_rfl) trivial ?_
    refine Wp_ret ?_
    exact ⟨[.agg [.val (.int .i64 (IntKind.i64.wrap (a0.Left - a1))), .val (.int .i64 a0.Next)], .val (.bool true)], by kernel_rfl, by (first | rfl | (clear hY hob; try simp only [decide_eq_true_eq, decide_eq_false_iff_not, Bool.or_eq_true, Bool.and_eq_true, Bool.or_eq_false_iff, beq_iff_eq, bne_iff_ne, beq_eq_false_iff_ne, bne_eq_false_iff_eq, Bool.not_eq_true, Bool.not_eq_false, Bool.not_eq_eq_eq_not, Bool.not_true, Bool.not_false] at *; simp only [rTakeMeter, tuple]; (repeat' split) <;> first | rfl | (exfalso; omega) | (simp_all; done) | (simp_all; omega)))⟩

def F25 : Spec := spec0 ⟨[], .val (.bool ((true)))⟩
theorem ok25 : SpecOk Try.prog 25 F25 := by
  have hY : (Env.mk Try.prog (look [(30, F30)])).Ok := look_ok (P := Try.prog) (l := [(30, F30)]) ⟨ok30, trivial⟩
  refine spec0_ok (Y := Env.mk Try.prog (look [(30, F30)])) 0 Try.func25 rfl (by kernel_rfl) (fun hob G => ?_)
  refine Wp_eq (st' := ⟨mk 4 [], []⟩) (by kernel_rfl) ?_
  refine Wp_seq ?_
  refine Wp_reg hY [] (fun _ => 0) [] (ob := []) (st' := ⟨mk 4 [(0, .val (.bool false))], []⟩) (by kernel_rfl) trivial ?_
  refine Wp_seq ?_
  refine Wp_reg hY [] (fun _ => 0) [1, 2, 3] (ob := []) (st' := ⟨mk 4 [(0, .val (.bool (((((meterNew 50 7)).Left) == 10) && (((((meterNew 50 7)).Next) == 17) && true))))], []⟩) (by kernel_rfl) trivial ?_
  refine Wp_ret ?_
  exact ⟨[.val (.bool (((((meterNew 50 7)).Left) == 10) && (((((meterNew 50 7)).Next) == 17) && true)))], by kernel_rfl, by rfl⟩

def F4 : Spec := spec4 meterP intP intP intP (fun a0 a1 a2 a3 => ⟨[i64 a1], .val (.bool ((yes4 a0 a1 a2 a3)))⟩)
theorem ok4 : SpecOk Try.prog 4 F4 := by
  have hY : (Env.mk Try.prog (look [(25, F25), (26, F26), (27, F27), (28, F28), (29, F29), (30, F30), (31, F31), (32, F32), (33, F33)])).Ok := look_ok (P := Try.prog) (l := [(25, F25), (26, F26), (27, F27), (28, F28), (29, F29), (30, F30), (31, F31), (32, F32), (33, F33)]) ⟨ok25, ok26, ok27, ok28, ok29, ok30, ok31, ok32, ok33, trivial⟩
  have hmix : (Env.mk Try.prog (look [(25, F25), (26, F26), (27, F27), (28, F28), (29, F29), (30, F30), (31, F31), (32, F32), (33, F33)])).P.follows .mixedOrders = true := by kernel_rfl
  refine spec4_ok (Y := Env.mk Try.prog (look [(25, F25), (26, F26), (27, F27), (28, F28), (29, F29), (30, F30), (31, F31), (32, F32), (33, F33)])) 3 Try.func4 rfl (fun _ _ _ _ => by kernel_rfl) (fun a0 a1 a2 a3 hob G => ?_)
  refine Wp_eq (st' := ⟨mk 78 [(0, .agg [.val (.int .i64 a0.Left), .val (.int .i64 a0.Next)]), (1, .val (.int .i64 a1)), (2, .val (.int .i64 a2)), (3, .val (.int .i64 a3))], [.free, .free, .free]⟩) (by kernel_rfl) ?_
  refine Wp_seq ?_
  refine Wp_reg hY [] (nth [0]) [0] (ob := []) (st' := ⟨mk 78 [(1, .val (.int .i64 a1)), (2, .val (.int .i64 a2)), (3, .val (.int .i64 a3)), (4, .ptr 0 0), (8, .val (.bool false))], [.cells 24 [.val (.int .i64 a0.Left), .val (.int .i64 a0.Next)], .free, .free]⟩) (by kernel_rfl) trivial ?_
  refine Wp_seq ?_
  refine Wp_seq ?_
  refine Wp_reg hY [15, 19, 23] (fun _ => 0) [13, 14, 15, 16, 17, 18, 19, 20, 21, 22, 23, 24, 25] (ob := []) (st' := ⟨mk 78 [(1, .val (.int .i64 a1)), (2, .val (.int .i64 a2)), (3, .val (.int .i64 a3)), (4, .ptr 0 0), (8, .val (.bool false)), (26, .val (.bool ((((decide (a2 < 0)) || (decide (a2 > 1099511627776))) || (decide (a3 < 0))) || (decide (a3 > 1125899906842624)))))], [.cells 24 [.val (.int .i64 a0.Left), .val (.int .i64 a0.Next)], .free, .free]⟩) (by kernel_rfl) trivial ?_
  refine Wp_cond ((((decide (a2 < 0)) || (decide (a2 > 1099511627776))) || (decide (a3 < 0))) || (decide (a3 > 1125899906842624))) (by kernel_rfl) (fun h1 => ?_) (fun h1 => ?_)
  · refine Wp_seq ?_
    refine Wp_reg hY [] (fun _ => 0) [27] (ob := []) (st' := ⟨mk 78 [(1, .val (.int .i64 a1)), (2, .val (.int .i64 a2)), (3, .val (.int .i64 a3)), (4, .ptr 0 0), (8, .val (.bool ((true)))), (26, .val (.bool ((((decide (a2 < 0)) || (decide (a2 > 1099511627776))) || (decide (a3 < 0))) || (decide (a3 > 1125899906842624)))))], [.cells 24 [.val (.int .i64 a0.Left), .val (.int .i64 a0.Next)], .free, .free]⟩) (by kernel_rfl) trivial ?_
    refine Wp_ret ?_
    exact ⟨[.val (.bool ((true)))], by kernel_rfl, by (first | rfl | (obtain ⟨hob, _⟩ := hob; simp [tuple, yes4, rNewMeter_eq hob, rTickMeter_eq hob, rTakeMeter_eq, rAllowance_eq hob]))⟩
  · refine Wp_skip ?_
    refine Wp_seq ?_
    refine Wp_reg hY [] (nth [0, 0, 0, 0, 0, 0, 1]) [28, 29, 30, 31, 32, 33] (ob := []) (st' := ⟨mk 78 [(1, .val (.int .i64 a1)), (2, .val (.int .i64 a2)), (3, .val (.int .i64 a3)), (4, .ptr 0 0), (8, .val (.bool false)), (9, .ptr 1 0), (10, .val (.bool ((meterTake a0 a3).2))), (26, .val (.bool ((((decide (a2 < 0)) || (decide (a2 > 1099511627776))) || (decide (a3 < 0))) || (decide (a3 > 1125899906842624)))))], [.cells 24 [.val (.int .i64 a0.Left), .val (.int .i64 a0.Next)], .cells 24 [.val (.int .i64 (((meterTake a0 a3).1).Left)), .val (.int .i64 (((meterTake a0 a3).1).Next))], .free]⟩) (by kernel_rfl) trivial ?_
    refine Wp_seq ?_
    refine Wp_reg hY [] (nth [0, 0, 0, 0, 0, 0, 2]) [34, 35, 36, 37, 38, 39] (ob := []) (st' := ⟨mk 78 [(1, .val (.int .i64 a1)), (2, .val (.int .i64 a2)), (3, .val (.int .i64 a3)), (4, .ptr 0 0), (8, .val (.bool false)), (9, .ptr 1 0), (10, .val (.bool ((meterTake a0 a3).2))), (11, .ptr 2 0), (12, .val (.bool ((rTakeMeter a0 a3).2))), (26, .val (.bool ((((decide (a2 < 0)) || (decide (a2 > 1099511627776))) || (decide (a3 < 0))) || (decide (a3 > 1125899906842624)))))], [.cells 24 [.val (.int .i64 a0.Left), .val (.int .i64 a0.Next)], .cells 24 [.val (.int .i64 (((meterTake a0 a3).1).Left)), .val (.int .i64 (((meterTake a0 a3).1).Next))], .cells 24 [.val (.int .i64 (((rTakeMeter a0 a3).1).Left)), .val (.int .i64 (((rTakeMeter a0 a3).1).Next))]]⟩) (by kernel_rfl) trivial ?_
    refine Wp_seq ?_
    refine Wp_drw hY hmix [43, 48, 55, 64, 75] (fun _ => 0) (fpl [⟨[9], [1], []⟩, ⟨[11], [2], []⟩, ⟨[40, 41], [], []⟩, ⟨[42], [], []⟩, ⟨[10, 43], [], []⟩, ⟨[12, 43], [], []⟩, ⟨[43, 44, 45], [], []⟩, ⟨[43, 46], [], []⟩, ⟨[47], [], []⟩, ⟨[1, 48], [], []⟩, ⟨[48, 49], [], []⟩, ⟨[1, 48], [], []⟩, ⟨[48, 51], [], []⟩, ⟨[48, 50, 52], [], []⟩, ⟨[48, 53], [], []⟩, ⟨[54], [], []⟩, ⟨[1, 55], [], []⟩, ⟨[2, 55], [], []⟩, ⟨[55, 56, 57], [], []⟩, ⟨[1, 55], [], []⟩, ⟨[2, 55], [], []⟩, ⟨[55, 59, 60], [], []⟩, ⟨[55, 58, 61], [], []⟩, ⟨[55, 62], [], []⟩, ⟨[63], [], []⟩, ⟨[4, 64], [0], []⟩, ⟨[1, 64], [], []⟩, ⟨[2, 64], [], []⟩, ⟨[64, 65, 66, 67], [], []⟩, ⟨[4, 64], [0], []⟩, ⟨[1, 64], [], []⟩, ⟨[2, 64], [], []⟩, ⟨[64, 69, 70, 71], [], []⟩, ⟨[64, 68, 72], [], []⟩, ⟨[64, 73], [], []⟩, ⟨[74], [], []⟩, ⟨[75], [], []⟩, ⟨[75, 76], [], []⟩, ⟨[77], [], []⟩]) [1, 10, 12, 40, 41, 42, 43, 44, 45, 46, 47, 48, 49, 50, 51, 52, 53, 54, 55, 56, 57, 58, 59, 60, 61, 62, 63, 64, 65, 66, 67, 68, 69, 70, 71, 72, 73, 74, 75, 76, 77] (by kernel_rfl) (ob := []) (st' := ⟨mk 78 [(2, .val (.int .i64 a2)), (3, .val (.int .i64 a3)), (4, .ptr 0 0), (8, .val (.bool ((((((((((meterTake a0 a3).1).Left) == (((rTakeMeter a0 a3).1).Left)) && (((((meterTake a0 a3).1).Next) == (((rTakeMeter a0 a3).1).Next)) && true)) && (((meterTake a0 a3).2) == ((rTakeMeter a0 a3).2))) && (((allowance a1)) == ((rAllowance a1)))) && (((((meterNew a1 a2)).Left) == (((rNewMeter a1 a2)).Left)) && (((((meterNew a1 a2)).Next) == (((rNewMeter a1 a2)).Next)) && true))) && (((((meterTick a0 a1 a2)).Left) == (((rTickMeter a0 a1 a2)).Left)) && (((((meterTick a0 a1 a2)).Next) == (((rTickMeter a0 a1 a2)).Next)) && true))) && ((true))))), (9, .ptr 1 0), (11, .ptr 2 0), (26, .val (.bool ((((decide (a2 < 0)) || (decide (a2 > 1099511627776))) || (decide (a3 < 0))) || (decide (a3 > 1125899906842624)))))], [.cells 24 [.val (.int .i64 a0.Left), .val (.int .i64 a0.Next)], .cells 24 [.val (.int .i64 (((meterTake a0 a3).1).Left)), .val (.int .i64 (((meterTake a0 a3).1).Next))], .cells 24 [.val (.int .i64 (((rTakeMeter a0 a3).1).Left)), .val (.int .i64 (((rTakeMeter a0 a3).1).Next))]]⟩) (by kernel_rfl) trivial ?_
    refine Wp_ret ?_
    exact ⟨[.val (.bool ((((((((((meterTake a0 a3).1).Left) == (((rTakeMeter a0 a3).1).Left)) && (((((meterTake a0 a3).1).Next) == (((rTakeMeter a0 a3).1).Next)) && true)) && (((meterTake a0 a3).2) == ((rTakeMeter a0 a3).2))) && (((allowance a1)) == ((rAllowance a1)))) && (((((meterNew a1 a2)).Left) == (((rNewMeter a1 a2)).Left)) && (((((meterNew a1 a2)).Next) == (((rNewMeter a1 a2)).Next)) && true))) && (((((meterTick a0 a1 a2)).Left) == (((rTickMeter a0 a1 a2)).Left)) && (((((meterTick a0 a1 a2)).Next) == (((rTickMeter a0 a1 a2)).Next)) && true))) && ((true))))], by kernel_rfl, by (first | rfl | (obtain ⟨hob, _⟩ := hob; simp [tuple, yes4, rNewMeter_eq hob, rTickMeter_eq hob, rTakeMeter_eq, rAllowance_eq hob]))⟩

theorem op_int_3 : OpenT Try.prog 3 (fun a => [intP.e a]) i64 := open_i (by kernel_rfl)
theorem op_Meter_24 : OpenT Try.prog 24 meterL.e ok_Meter := open_map (open_fields [(0, 3), (1, 3)] (by kernel_rfl) (by kernel_rfl) (openTs_cons (c := 1) (by kernel_rfl) op_int_3 (openTs_cons (c := 1) (by kernel_rfl) op_int_3 openTs_nil))) (fun x : Int × Int × Unit => (⟨x.1, x.2.1⟩ : Meter)) (fun _ => rfl) (fun _ h => ⟨h.1, h.2.1⟩)
set_option maxRecDepth 100000 in
theorem lifted4 (os : Os) (started : os.Started) (H : Type) (enc : TypeId × Value → H) :
    ReturnsInHanded {} Try.checked os 4 .any (Rows.meterTicksSpec.pre6 enc Try.prog Try.f4 Rows.meterTicksRow.domain false) (Rows.meterTicksSpec.post enc Try.prog Try.f4 false true false false) := by
  refine returnsInHanded_of_change (C := Try.checked) Facts.own started (by kernel_rfl) Try.func4
    (ChangeSpec.witness6 (enc := enc) (C := Try.checked) false ⟨#[], #[.agg #[.int .i64 0, .int .i64 0], .int .i64 0, .int .i64 0, .int .i64 0], []⟩ 8 (by kernel_rfl) (by kernel_rfl) (by kernel_rfl) (by kernel_rfl)) ?_
  intro W base args ds gs before hval0 hW hcnd _
  have hval : ∀ (j : Nat) t v, Try.f4.params[j]? = some t → args[j]? = some v → Value.okWide Try.prog W .any base t v := hval0
  have hW' := hW
  obtain ⟨p, q, hA0, hV, hbf, hfz, hnd⟩ := hW
  have hA : DataW.TrodAll enc Try.prog W 0 (fun _ => true) true Try.f4.params.toList args.toList ds p := hA0
  rw [Try.params4] at hA hval
  obtain ⟨v0, vs0, d0, ds0, p0, q0, hargs, rfl, hp0, h0, r0⟩ := trodAll_cons hA
  obtain ⟨v1, vs1, d1, ds1, p1, q1, rfl, rfl, hp1, h1, r1⟩ := trodAll_cons r0
  obtain ⟨v2, vs2, d2, ds2, p2, q2, rfl, rfl, hp2, h2, r2⟩ := trodAll_cons r1
  obtain ⟨v3, vs3, d3, ds3, p3, q3, rfl, rfl, hp3, h3, r3⟩ := trodAll_cons r2
  obtain ⟨rfl, rfl, hp⟩ := trodAll_nil r3
  obtain rfl : args = #[v0, v1, v2, v3] := by cases args; simp_all
  obtain ⟨rfl, rfl⟩ := trodVars_none hV
  obtain ⟨a0, A0, o0⟩ := (openA_ag op_Meter_24 (by kernel_rfl)) H enc W base _ _ v0 d0 p0 (hval 0 24 v0 rfl rfl) h0 (cx0 W) rfl (cx0_L W)
  obtain ⟨a1, A1, o1⟩ := (openA_one op_int_3 ⟨.int .i64, by kernel_rfl, by rfl⟩) H enc W base _ _ v1 d1 p1 (hval 1 3 v1 rfl rfl) h1 (cx0 W) rfl (cx0_L W)
  obtain ⟨a2, A2, o2⟩ := (openA_one op_int_3 ⟨.int .i64, by kernel_rfl, by rfl⟩) H enc W base _ _ v2 d2 p2 (hval 2 3 v2 rfl rfl) h2 (cx0 W) rfl (cx0_L W)
  obtain ⟨a3, A3, o3⟩ := (openA_one op_int_3 ⟨.int .i64, by kernel_rfl, by rfl⟩) H enc W base _ _ v3 d3 p3 (hval 3 3 v3 rfl rfl) h3 (cx0 W) rfl (cx0_L W)
  refine (law_calls ok4 (.cons A0 (.cons A1 (.cons A2 (.cons A3 .nil)))) (by rfl) (by exact ⟨o1, trivial⟩) (by rfl) rfl).mono fun e W' ⟨he, hb⟩ => ⟨_, he, ?_⟩
  exact law_post Facts.laid hW' hA0 (hbf.trans (List.append_nil _)) rfl rfl (by kernel_rfl) (by kernel_rfl) rfl rfl (by rw [Try.params4]; intro t ht; simp only [List.mem_cons, List.mem_nil_iff, or_false] at ht; (try rcases ht with rfl | rfl | rfl | rfl) <;> exact ⟨by kernel_rfl, of_decide_eq_true (by kernel_rfl)⟩) hb

theorem joined4 : joinedFacts Try.prog 4 Try.f4 Rows.meterTicksSpec Rows.meterTicksRow = true := by
  unfold joinedFacts
  rw [Facts.laid, Facts.maps, Facts.stops, Facts.stopKnobs, Facts.heard, Facts.plainKeys, Facts.mayEnter, Facts.lifts, Facts.make]
  simp only [Bool.and_eq_true]
  repeat' apply And.intro
  all_goals first | (with_reducible exact True.intro) | (as_aux_lemma => kernel_rfl)

theorem over4 : Rows.meterTicksRow.holds Try.pinned (OpenSpec.ofChange Rows.meterTicksSpec) :=
  OpenClaim.holds_of_wide 4 Try.f4 rfl rfl rfl rfl rfl rfl rfl ⟨rfl, rfl, rfl, rfl, rfl⟩ rfl rfl rfl rfl rfl (by as_aux_lemma => kernel_rfl) Try.func4 joined4
    (of_decide_eq_true (by kernel_rfl)) (by unfold Func.isWrapper; first | (rw [if_pos (by decide +kernel)]; kernel_rfl) | (rw [if_neg (by decide +kernel)]; exact ⟨rfl, rfl⟩))
    (fun os started H enc _ => lifted4 os started H enc)

theorem proved : Rows.MeterTicksSaid :=
  over4

end Go.Proofs.Ytfmcmcbckhmfaaa.Ab
