/-
  'MeterBounds': what a meter lets through stays below its allowance.
-/
import Derived.Test.YtfmcmcbckhmfaaaAbOpen
import Derived.Test.YtfmcmcbckhmfaaaFacts
namespace Go.Proofs.Ytfmcmcbckhmfaaa.Ab
open Go Go.RowKit Go.WideShapes Go.ChangeShapes Go.ChangeAt
set_option linter.unusedSimpArgs false
set_option linter.unusedVariables false
def allowance (x : Int) : Int := if IntKind.i64.wrap (x.tdiv 5) > 1 then IntKind.i64.wrap (x.tdiv 5) else 1
def meterNew (all time : Int) : Meter := ⟨allowance all, IntKind.i64.wrap (time + 10)⟩
def meterTick (m : Meter) (all time : Int) : Meter := if time ≥ m.Next then meterNew all time else m
def meterTake (m : Meter) (n : Int) : Meter × Bool := if m.Left ≤ 0 then (m, false) else (⟨IntKind.i64.wrap (m.Left - n), m.Next⟩, true)
def pick (k n : Int) : Int := if Int.tmod k n < 0 then IntKind.i64.wrap (Int.tmod k n + n) else Int.tmod k n
def yes2 (_ : Int) (_ : List Int) : Bool := true
theorem pick_in {k : Int} : 0 ≤ pick k 1099511627776 ∧ pick k 1099511627776 < 1099511627776 := by
  unfold pick
  rw [IntKind.wrap_i64]
  rcases Int.le_total 0 k with hk | hk
  · rw [tmod_nn hk]; split <;> omega
  · rw [tmod_np hk]; split <;> omega
theorem allowance_in {x : Int} (h : 0 ≤ x ∧ x < 1099511627776) : 1 ≤ allowance x ∧ allowance x ≤ 1099511627776 := by
  unfold allowance
  rw [tdiv_nn h.1, IntKind.wrap_i64]
  split <;> omega
theorem take_left {m : Meter} {n : Int} {v : Meter × Bool} (e : v = meterTake m n) (h : v.2 = true) : m.Left > 0 := by
  subst e; unfold meterTake at h; split at h
  · cases h
  · omega
theorem take_more {m : Meter} {n : Int} {v : Meter × Bool} (h : m.Left > 0) (e : v = meterTake m n) : v.1 = ⟨IntKind.i64.wrap (m.Left - n), m.Next⟩ := by
  subst e; unfold meterTake; rw [if_neg (by omega)]
theorem take_same {m : Meter} {n : Int} {v : Meter × Bool} (e : v = meterTake m n) (h : v.2 = false) : v.1 = m := by
  subst e; unfold meterTake at h ⊢; split at h
  · rw [if_pos (by assumption)]
  · cases h
def MBP (a0 : Int) (l : List Int) (x : Meter × Int × Int × Nat) : Prop :=
  x.1.Left = allowance (pick a0 1099511627776) - x.2.1 ∧ x.1.Next = 10 ∧ 0 ≤ x.2.1 - x.2.2.1 ∧ x.2.1 - x.2.2.1 < allowance (pick a0 1099511627776) ∧ 0 ≤ x.2.2.1 ∧ x.2.2.1 ≤ 1099511627776 ∧ x.2.2.2 ≤ l.length
theorem MBP_mk {a0 : Int} {l : List Int} {v : Int} {m : Meter} {s t : Int} {i : Nat} (e : v = pick a0 1099511627776) (h1 : m.Left = allowance v - s) (h2 : m.Next = 10) (h3 : 0 ≤ s - t) (h4 : s - t < allowance v) (h5 : 0 ≤ t) (h6 : t ≤ 1099511627776) (h7 : i ≤ l.length) : MBP a0 l (m, s, t, i) := by
  subst e; exact ⟨h1, h2, h3, h4, h5, h6, h7⟩
abbrev MBI (a0 : Int) (l : List Int) := { x : Meter × Int × Int × Nat // MBP a0 l x }
def MBI.start (a0 : Int) (l : List Int) {v : Int} {m : Meter} (e : v = pick a0 1099511627776) (e2 : m = meterNew v 0) : MBI a0 l :=
  ⟨(m, 0, 0, 0), by
    have hp := pick_in (k := a0)
    have hA := allowance_in hp
    subst e2; subst e
    refine ⟨?_, ?_, ?_, ?_, ?_, ?_, ?_⟩ <;> first | (simp only [meterNew]; omega) | (simp only [meterNew]; decide) | (simp; done) | (simp; omega) | omega⟩
def F28 : Spec := spec1 intP (fun a0 => ⟨[], .val (.int .i64 ((allowance a0)))⟩)
theorem ok28 : SpecOk Try.prog 28 F28 := by
  have hY : (Env.mk Try.prog (look [])).Ok := look_ok (P := Try.prog) (l := []) trivial
  refine spec1_ok (Y := Env.mk Try.prog (look [])) 0 Try.func28 rfl (fun _ => by kernel_rfl) (fun a0 hob G => ?_)
  refine Wp_eq (st' := ⟨mk 6 [(0, .val (.int .i64 a0))], []⟩) (by kernel_rfl) ?_
  refine Wp_seq ?_
  refine Wp_reg hY [] (fun _ => 0) [] (ob := []) (st' := ⟨mk 6 [(0, .val (.int .i64 a0)), (2, .val (.int .i64 0))], []⟩) (by kernel_rfl) trivial ?_
  refine Wp_seq ?_
  refine Wp_reg hY [] (fun _ => 0) [0, 3, 4, 5] (ob := [(5 : Int) ≠ 0]) (st' := ⟨mk 6 [(2, .val (.int .i64 (if (IntKind.i64.wrap (Int.tdiv a0 5)) > 1 then (IntKind.i64.wrap (Int.tdiv a0 5)) else 1)))], []⟩) (by kernel_rfl) (by refine ⟨?_, trivial⟩ <;> omega) ?_
  refine Wp_ret ?_
  exact ⟨[.val (.int .i64 (if (IntKind.i64.wrap (Int.tdiv a0 5)) > 1 then (IntKind.i64.wrap (Int.tdiv a0 5)) else 1))], by kernel_rfl, by rfl⟩

def F30 : Spec := spec2 intP intP (fun a0 a1 => ⟨[], .agg [.val (.int .i64 (((meterNew a0 a1)).Left)), .val (.int .i64 (((meterNew a0 a1)).Next))]⟩)
theorem ok30 : SpecOk Try.prog 30 F30 := by
  have hY : (Env.mk Try.prog (look [(28, F28)])).Ok := look_ok (P := Try.prog) (l := [(28, F28)]) ⟨ok28, trivial⟩
  refine spec2_ok (Y := Env.mk Try.prog (look [(28, F28)])) 1 Try.func30 rfl (fun _ _ => by kernel_rfl) (fun a0 a1 hob G => ?_)
  refine Wp_eq (st' := ⟨mk 10 [(0, .val (.int .i64 a0)), (1, .val (.int .i64 a1))], [.free]⟩) (by kernel_rfl) ?_
  refine Wp_seq ?_
  refine Wp_reg hY [] (nth [0]) [] (ob := []) (st' := ⟨mk 10 [(0, .val (.int .i64 a0)), (1, .val (.int .i64 a1)), (4, .ptr 0 0)], [.cells 24 [.val (.int .i64 0), .val (.int .i64 0)]]⟩) (by kernel_rfl) trivial ?_
  refine Wp_seq ?_
  refine Wp_reg hY [] (fun _ => 0) [0, 1, 5, 6, 7, 8, 9] (ob := []) (st' := ⟨mk 10 [(4, .ptr 0 0)], [.cells 24 [.val (.int .i64 ((allowance a0))), .val (.int .i64 (IntKind.i64.wrap (a1 + 10)))]]⟩) (by kernel_rfl) trivial ?_
  refine Wp_ret ?_
  exact ⟨[.agg [.val (.int .i64 ((allowance a0))), .val (.int .i64 (IntKind.i64.wrap (a1 + 10)))]], by kernel_rfl, by rfl⟩

def F32 : Spec := spec3 meterP intP intP (fun a0 a1 a2 => ⟨[], .agg [.val (.int .i64 (((meterTick a0 a1 a2)).Left)), .val (.int .i64 (((meterTick a0 a1 a2)).Next))]⟩)
theorem ok32 : SpecOk Try.prog 32 F32 := by
  have hY : (Env.mk Try.prog (look [(30, F30)])).Ok := look_ok (P := Try.prog) (l := [(30, F30)]) ⟨ok30, trivial⟩
  refine spec3_ok (Y := Env.mk Try.prog (look [(30, F30)])) 2 Try.func32 rfl (fun _ _ _ => by kernel_rfl) (fun a0 a1 a2 hob G => ?_)
  refine Wp_eq (st' := ⟨mk 15 [(0, .agg [.val (.int .i64 a0.Left), .val (.int .i64 a0.Next)]), (1, .val (.int .i64 a1)), (2, .val (.int .i64 a2))], [.free, .free]⟩) (by kernel_rfl) ?_
  refine Wp_seq ?_
  refine Wp_reg hY [] (nth [0, 1]) [0] (ob := []) (st' := ⟨mk 15 [(1, .val (.int .i64 a1)), (2, .val (.int .i64 a2)), (3, .ptr 0 0), (6, .ptr 1 0)], [.cells 24 [.val (.int .i64 a0.Left), .val (.int .i64 a0.Next)], .cells 24 [.val (.int .i64 0), .val (.int .i64 0)]]⟩) (by kernel_rfl) trivial ?_
  refine Wp_seq ?_
  refine Wp_seq ?_
  refine Wp_reg hY [] (fun _ => 0) [7, 8, 9] (ob := []) (st' := ⟨mk 15 [(1, .val (.int .i64 a1)), (2, .val (.int .i64 a2)), (3, .ptr 0 0), (6, .ptr 1 0), (10, .val (.bool (decide (a2 ≥ a0.Next))))], [.cells 24 [.val (.int .i64 a0.Left), .val (.int .i64 a0.Next)], .cells 24 [.val (.int .i64 0), .val (.int .i64 0)]]⟩) (by kernel_rfl) trivial ?_
  refine Wp_cond (decide (a2 ≥ a0.Next)) (by kernel_rfl) (fun h1 => ?_) (fun h1 => ?_)
  · refine Wp_seq ?_
    refine Wp_reg hY [] (fun _ => 0) [1, 11, 12, 13] (ob := []) (st' := ⟨mk 15 [(2, .val (.int .i64 a2)), (3, .ptr 0 0), (6, .ptr 1 0), (10, .val (.bool (decide (a2 ≥ a0.Next))))], [.cells 24 [.val (.int .i64 a0.Left), .val (.int .i64 a0.Next)], .cells 24 [.val (.int .i64 (((meterNew a1 a2)).Left)), .val (.int .i64 (((meterNew a1 a2)).Next))]]⟩) (by kernel_rfl) trivial ?_
    refine Wp_ret ?_
    exact ⟨[.agg [.val (.int .i64 (((meterNew a1 a2)).Left)), .val (.int .i64 (((meterNew a1 a2)).Next))]], by kernel_rfl, by (first | rfl | (clear hY hob; try simp only [decide_eq_true_eq, decide_eq_false_iff_not, Bool.or_eq_true, Bool.and_eq_true, Bool.or_eq_false_iff, beq_iff_eq, bne_iff_ne, beq_eq_false_iff_ne, bne_eq_false_iff_eq, Bool.not_eq_true, Bool.not_eq_false, Bool.not_eq_eq_eq_not, Bool.not_true, Bool.not_false] at *; simp only [meterTick, tuple]; (repeat' split) <;> first | rfl | (exfalso; omega) | (simp_all; done) | (simp_all; omega)))⟩
  · refine Wp_skip ?_
    refine Wp_seq ?_
    refine Wp_reg hY [] (fun _ => 0) [14] (ob := []) (st' := ⟨mk 15 [(1, .val (.int .i64 a1)), (2, .val (.int .i64 a2)), (3, .ptr 0 0), (6, .ptr 1 0), (10, .val (.bool (decide (a2 ≥ a0.Next))))], [.cells 24 [.val (.int .i64 a0.Left), .val (.int .i64 a0.Next)], .cells 24 [.val (.int .i64 a0.Left), .val (.int .i64 a0.Next)]]⟩) (by kernel_rfl) trivial ?_
    refine Wp_ret ?_
    exact ⟨[.agg [.val (.int .i64 a0.Left), .val (.int .i64 a0.Next)]], by kernel_rfl, by (first | rfl | (clear hY hob; try simp only [decide_eq_true_eq, decide_eq_false_iff_not, Bool.or_eq_true, Bool.and_eq_true, Bool.or_eq_false_iff, beq_iff_eq, bne_iff_ne, beq_eq_false_iff_ne, bne_eq_false_iff_eq, Bool.not_eq_true, Bool.not_eq_false, Bool.not_eq_eq_eq_not, Bool.not_true, Bool.not_false] at *; simp only [meterTick, tuple]; (repeat' split) <;> first | rfl | (exfalso; omega) | (simp_all; done) | (simp_all; omega)))⟩

def F26 : Spec := spec2 meterP intP (fun a0 a1 => ⟨[], .tup [.agg [.val (.int .i64 (((meterTake a0 a1).1).Left)), .val (.int .i64 (((meterTake a0 a1).1).Next))], .val (.bool ((meterTake a0 a1).2))]⟩)
theorem ok26 : SpecOk Try.prog 26 F26 := by
  have hY : (Env.mk Try.prog (look [])).Ok := look_ok (P := Try.prog) (l := []) trivial
  refine spec2_ok (Y := Env.mk Try.prog (look [])) 2 Try.func26 rfl (fun _ _ => by kernel_rfl) (fun a0 a1 hob G => ?_)
  refine Wp_eq (st' := ⟨mk 16 [(0, .agg [.val (.int .i64 a0.Left), .val (.int .i64 a0.Next)]), (1, .val (.int .i64 a1))], [.free, .free]⟩) (by kernel_rfl) ?_
  refine Wp_seq ?_
  refine Wp_reg hY [] (nth [0, 1]) [0] (ob := []) (st' := ⟨mk 16 [(1, .val (.int .i64 a1)), (2, .ptr 0 0), (4, .ptr 1 0), (5, .val (.bool false))], [.cells 24 [.val (.int .i64 a0.Left), .val (.int .i64 a0.Next)], .cells 24 [.val (.int .i64 0), .val (.int .i64 0)]]⟩) (by kernel_rfl) trivial ?_
  refine Wp_seq ?_
  refine Wp_seq ?_
  refine Wp_reg hY [] (fun _ => 0) [6, 7] (ob := []) (st' := ⟨mk 16 [(1, .val (.int .i64 a1)), (2, .ptr 0 0), (4, .ptr 1 0), (5, .val (.bool false)), (8, .val (.bool (decide (a0.Left ≤ 0))))], [.cells 24 [.val (.int .i64 a0.Left), .val (.int .i64 a0.Next)], .cells 24 [.val (.int .i64 0), .val (.int .i64 0)]]⟩) (by kernel_rfl) trivial ?_
  refine Wp_cond (decide (a0.Left ≤ 0)) (by kernel_rfl) (fun h1 => ?_) (fun h1 => ?_)
  · refine Wp_seq ?_
    refine Wp_reg hY [] (fun _ => 0) [9] (ob := []) (st' := ⟨mk 16 [(1, .val (.int .i64 a1)), (2, .ptr 0 0), (4, .ptr 1 0), (5, .val (.bool false)), (8, .val (.bool (decide (a0.Left ≤ 0))))], [.cells 24 [.val (.int .i64 a0.Left), .val (.int .i64 a0.Next)], .cells 24 [.val (.int .i64 a0.Left), .val (.int .i64 a0.Next)]]⟩) (by kernel_rfl) trivial ?_
    refine Wp_ret ?_
    exact ⟨[.agg [.val (.int .i64 a0.Left), .val (.int .i64 a0.Next)], .val (.bool false)], by kernel_rfl, by (first | rfl | (clear hY hob; try simp only [decide_eq_true_eq, decide_eq_false_iff_not, Bool.or_eq_true, Bool.and_eq_true, Bool.or_eq_false_iff, beq_iff_eq, bne_iff_ne, beq_eq_false_iff_ne, bne_eq_false_iff_eq, Bool.not_eq_true, Bool.not_eq_false, Bool.not_eq_eq_eq_not, Bool.not_true, Bool.not_false] at *; simp only [meterTake, tuple]; (repeat' split) <;> first | rfl | (exfalso; omega) | (simp_all; done) | (simp_all; omega)))⟩
  · refine Wp_skip ?_
    refine Wp_seq ?_
    refine Wp_reg hY [] (fun _ => 0) [1, 10, 11, 12, 13, 14] (ob := []) (st' := ⟨mk 16 [(2, .ptr 0 0), (4, .ptr 1 0), (5, .val (.bool false)), (8, .val (.bool (decide (a0.Left ≤ 0))))], [.cells 24 [.val (.int .i64 (IntKind.i64.wrap (a0.Left - a1))), .val (.int .i64 a0.Next)], .cells 24 [.val (.int .i64 0), .val (.int .i64 0)]]⟩) (by kernel_rfl) trivial ?_
    refine Wp_seq ?_
    refine Wp_reg hY [] (fun _ => 0) [15] (ob := []) (st' := ⟨mk 16 [(2, .ptr 0 0), (4, .ptr 1 0), (5, .val (.bool true)), (8, .val (.bool (decide (a0.Left ≤ 0))))], [.cells 24 [.val (.int .i64 (IntKind.i64.wrap (a0.Left - a1))), .val (.int .i64 a0.Next)], .cells 24 [.val (.int .i64 (IntKind.i64.wrap (a0.Left - a1))), .val (.int .i64 a0.Next)]]⟩) (by kernel_rfl) trivial ?_
    refine Wp_ret ?_
    exact ⟨[.agg [.val (.int .i64 (IntKind.i64.wrap (a0.Left - a1))), .val (.int .i64 a0.Next)], .val (.bool true)], by kernel_rfl, by (first | rfl | (clear hY hob; try simp only [decide_eq_true_eq, decide_eq_false_iff_not, Bool.or_eq_true, Bool.and_eq_true, Bool.or_eq_false_iff, beq_iff_eq, bne_iff_ne, beq_eq_false_iff_ne, bne_eq_false_iff_eq, Bool.not_eq_true, Bool.not_eq_false, Bool.not_eq_eq_eq_not, Bool.not_true, Bool.not_false] at *; simp only [meterTake, tuple]; (repeat' split) <;> first | rfl | (exfalso; omega) | (simp_all; done) | (simp_all; omega)))⟩

def F34 : Spec := spec2 intP intP (fun a0 a1 => ⟨[(a1 : Int) ≠ 0], .val (.int .i64 ((pick a0 a1)))⟩)
theorem ok34 : SpecOk Try.prog 34 F34 := by
  have hY : (Env.mk Try.prog (look [])).Ok := look_ok (P := Try.prog) (l := []) trivial
  refine spec2_ok (Y := Env.mk Try.prog (look [])) 0 Try.func34 rfl (fun _ _ => by kernel_rfl) (fun a0 a1 hob G => ?_)
  refine Wp_eq (st' := ⟨mk 14 [(0, .val (.int .i64 a0)), (1, .val (.int .i64 a1))], []⟩) (by kernel_rfl) ?_
  refine Wp_seq ?_
  refine Wp_reg hY [] (fun _ => 0) [] (ob := []) (st' := ⟨mk 14 [(0, .val (.int .i64 a0)), (1, .val (.int .i64 a1)), (4, .val (.int .i64 0))], []⟩) (by kernel_rfl) trivial ?_
  refine Wp_seq ?_
  refine Wp_reg hY [] (fun _ => 0) [5, 6, 7] (ob := [(a1 : Int) ≠ 0]) (st' := ⟨mk 14 [(0, .val (.int .i64 (Int.tmod a0 a1))), (1, .val (.int .i64 a1)), (4, .val (.int .i64 0))], []⟩) (by kernel_rfl) (by exact ⟨hob.1, trivial⟩) ?_
  refine Wp_seq ?_
  refine Wp_seq ?_
  refine Wp_reg hY [] (fun _ => 0) [8] (ob := []) (st' := ⟨mk 14 [(0, .val (.int .i64 (Int.tmod a0 a1))), (1, .val (.int .i64 a1)), (4, .val (.int .i64 0)), (9, .val (.bool (decide ((Int.tmod a0 a1) < 0))))], []⟩) (by kernel_rfl) trivial ?_
  refine Wp_cond (decide ((Int.tmod a0 a1) < 0)) (by kernel_rfl) (fun h1 => ?_) (fun h1 => ?_)
  · refine Wp_reg hY [] (fun _ => 0) [10, 11, 12] (ob := []) (st' := ⟨mk 14 [(0, .val (.int .i64 (IntKind.i64.wrap ((Int.tmod a0 a1) + a1)))), (1, .val (.int .i64 a1)), (4, .val (.int .i64 0)), (9, .val (.bool (decide ((Int.tmod a0 a1) < 0))))], []⟩) (by kernel_rfl) trivial ?_
    refine Wp_seq ?_
    refine Wp_reg hY [] (fun _ => 0) [13] (ob := []) (st' := ⟨mk 14 [(0, .val (.int .i64 (IntKind.i64.wrap ((Int.tmod a0 a1) + a1)))), (1, .val (.int .i64 a1)), (4, .val (.int .i64 (IntKind.i64.wrap ((Int.tmod a0 a1) + a1)))), (9, .val (.bool (decide ((Int.tmod a0 a1) < 0))))], []⟩) (by kernel_rfl) trivial ?_
    refine Wp_ret ?_
    exact ⟨[.val (.int .i64 (IntKind.i64.wrap ((Int.tmod a0 a1) + a1)))], by kernel_rfl, by (first | rfl | (clear hY hob; try simp only [decide_eq_true_eq, decide_eq_false_iff_not, Bool.or_eq_true, Bool.and_eq_true, Bool.or_eq_false_iff, beq_iff_eq, bne_iff_ne, beq_eq_false_iff_ne, bne_eq_false_iff_eq, Bool.not_eq_true, Bool.not_eq_false, Bool.not_eq_eq_eq_not, Bool.not_true, Bool.not_false] at *; simp only [pick, tuple]; (repeat' split) <;> first | rfl | (exfalso; omega) | (simp_all; done) | (simp_all; omega)))⟩
  · refine Wp_skip ?_
    refine Wp_seq ?_
    refine Wp_reg hY [] (fun _ => 0) [13] (ob := []) (st' := ⟨mk 14 [(0, .val (.int .i64 (Int.tmod a0 a1))), (1, .val (.int .i64 a1)), (4, .val (.int .i64 (Int.tmod a0 a1))), (9, .val (.bool (decide ((Int.tmod a0 a1) < 0))))], []⟩) (by kernel_rfl) trivial ?_
    refine Wp_ret ?_
    exact ⟨[.val (.int .i64 (Int.tmod a0 a1))], by kernel_rfl, by (first | rfl | (clear hY hob; try simp only [decide_eq_true_eq, decide_eq_false_iff_not, Bool.or_eq_true, Bool.and_eq_true, Bool.or_eq_false_iff, beq_iff_eq, bne_iff_ne, beq_eq_false_iff_ne, bne_eq_false_iff_eq, Bool.not_eq_true, Bool.not_eq_false, Bool.not_eq_eq_eq_not, Bool.not_true, Bool.not_false] at *; simp only [pick, tuple]; (repeat' split) <;> first | rfl | (exfalso; omega) | (simp_all; done) | (simp_all; omega)))⟩

def F35 : Spec := spec0 ⟨[], .val (.bool ((true)))⟩
theorem ok35 : SpecOk Try.prog 35 F35 := by
  have hY : (Env.mk Try.prog (look [(30, F30)])).Ok := look_ok (P := Try.prog) (l := [(30, F30)]) ⟨ok30, trivial⟩
  refine spec0_ok (Y := Env.mk Try.prog (look [(30, F30)])) 0 Try.func35 rfl (by kernel_rfl) (fun hob G => ?_)
  refine Wp_eq (st' := ⟨mk 4 [], []⟩) (by kernel_rfl) ?_
  refine Wp_seq ?_
  refine Wp_reg hY [] (fun _ => 0) [] (ob := []) (st' := ⟨mk 4 [(0, .val (.bool false))], []⟩) (by kernel_rfl) trivial ?_
  refine Wp_seq ?_
  refine Wp_reg hY [] (fun _ => 0) [1, 2, 3] (ob := []) (st' := ⟨mk 4 [(0, .val (.bool (((((meterNew 50 7)).Left) == 10) && (((((meterNew 50 7)).Next) == 17) && true))))], []⟩) (by kernel_rfl) trivial ?_
  refine Wp_ret ?_
  exact ⟨[.val (.bool (((((meterNew 50 7)).Left) == 10) && (((((meterNew 50 7)).Next) == 17) && true)))], by kernel_rfl, by rfl⟩

def F5 : Spec := spec2 intP intsP (fun a0 a1 => ⟨[a1.length ≤ maxLen], .val (.bool ((yes2 a0 a1)))⟩)
theorem ok5 : SpecOk Try.prog 5 F5 := by
  have hY : (Env.mk Try.prog (look [(34, F34), (30, F30), (35, F35), (28, F28), (26, F26), (32, F32)])).Ok := look_ok (P := Try.prog) (l := [(34, F34), (30, F30), (35, F35), (28, F28), (26, F26), (32, F32)]) ⟨ok34, ok30, ok35, ok28, ok26, ok32, trivial⟩
  have hmix : (Env.mk Try.prog (look [(34, F34), (30, F30), (35, F35), (28, F28), (26, F26), (32, F32)])).P.follows .mixedOrders = true := by kernel_rfl
  refine spec2_ok (Y := Env.mk Try.prog (look [(34, F34), (30, F30), (35, F35), (28, F28), (26, F26), (32, F32)])) 2 Try.func5 rfl (fun _ _ => by kernel_rfl) (fun a0 a1 hob G => ?_)
  refine Wp_eq (st' := ⟨mk 96 [(0, .val (.int .i64 a0)), (1, .sl (.ints a1))], [.free, .free]⟩) (by kernel_rfl) ?_
  refine Wp_seq ?_
  refine Wp_reg hY [] (fun _ => 0) [] (ob := []) (st' := ⟨mk 96 [(0, .val (.int .i64 a0)), (1, .sl (.ints a1)), (4, .val (.bool false))], [.free, .free]⟩) (by kernel_rfl) trivial ?_
  refine Wp_seq ?_
  refine Wp_reg hY [] (fun _ => 0) [13, 14] (ob := [(1099511627776 : Int) ≠ 0]) (st' := ⟨mk 96 [(0, .val (.int .i64 ((pick a0 1099511627776)))), (1, .sl (.ints a1)), (4, .val (.bool false))], [.free, .free]⟩) (by kernel_rfl) (by refine ⟨?_, trivial⟩ <;> omega) ?_
  refine Wp_seq ?_
  obtain ⟨v1, e1⟩ : ∃ v, v = pick a0 1099511627776 := ⟨_, rfl⟩
  refine Wp_eq (st' := ⟨mk 96 [(0, .val (.int .i64 v1)), (1, .sl (.ints a1)), (4, .val (.bool false))], [.free, .free]⟩) (by subst e1; kernel_rfl) ?_
  refine Wp_reg hY [] (nth [0, 0, 0]) [15, 16] (ob := []) (st' := ⟨mk 96 [(0, .val (.int .i64 v1)), (1, .sl (.ints a1)), (4, .val (.bool false)), (5, .ptr 0 0)], [.cells 24 [.val (.int .i64 (((meterNew v1 0)).Left)), .val (.int .i64 (((meterNew v1 0)).Next))], .free]⟩) (by kernel_rfl) trivial ?_
  refine Wp_seq ?_
  obtain ⟨v2, e2⟩ : ∃ v, v = meterNew v1 0 := ⟨_, rfl⟩
  refine Wp_eq (st' := ⟨mk 96 [(0, .val (.int .i64 v1)), (1, .sl (.ints a1)), (4, .val (.bool false)), (5, .ptr 0 0)], [.cells 24 [.val (.int .i64 ((v2).Left)), .val (.int .i64 ((v2).Next))], .free]⟩) (by subst e2; kernel_rfl) ?_
  refine Wp_reg hY [] (fun _ => 0) [] (ob := []) (st' := ⟨mk 96 [(0, .val (.int .i64 v1)), (1, .sl (.ints a1)), (4, .val (.bool false)), (5, .ptr 0 0), (6, .val (.int .i64 0)), (7, .val (.int .i64 0))], [.cells 24 [.val (.int .i64 ((v2).Left)), .val (.int .i64 ((v2).Next))], .free]⟩) (by kernel_rfl) trivial ?_
  refine Wp_seq ?_
  refine Wp_seq ?_
  refine Wp_drw hY hmix [19, 26] (fun _ => 0) (fpl [⟨[], [], []⟩, ⟨[17], [], []⟩, ⟨[18], [], []⟩, ⟨[5, 19], [], []⟩, ⟨[19, 20], [0], []⟩, ⟨[0, 19], [], []⟩, ⟨[19, 22], [], []⟩, ⟨[19, 21, 23], [], []⟩, ⟨[19, 24], [], []⟩, ⟨[25], [], []⟩, ⟨[5, 26], [], []⟩, ⟨[26, 27], [0], []⟩, ⟨[26, 28], [], []⟩, ⟨[26, 29], [], []⟩]) [17, 18, 19, 20, 21, 22, 23, 24, 25, 26, 27, 28, 29] (by kernel_rfl) (ob := []) (st' := ⟨mk 96 [(0, .val (.int .i64 v1)), (1, .sl (.ints a1)), (4, .val (.bool false)), (5, .ptr 0 0), (6, .val (.int .i64 0)), (7, .val (.int .i64 0)), (30, .val (.bool (((!((true))) || (((v2).Left) != ((allowance v1)))) || (decide (((v2).Left) < 1)))))], [.cells 24 [.val (.int .i64 ((v2).Left)), .val (.int .i64 ((v2).Next))], .free]⟩) (by kernel_rfl) trivial ?_
  obtain ⟨v3, e3⟩ : ∃ v, v = allowance v1 := ⟨_, rfl⟩
  refine Wp_eq (st' := ⟨mk 96 [(0, .val (.int .i64 v1)), (1, .sl (.ints a1)), (4, .val (.bool false)), (5, .ptr 0 0), (6, .val (.int .i64 0)), (7, .val (.int .i64 0)), (30, .val (.bool (((!((true))) || (((v2).Left) != (v3))) || (decide (((v2).Left) < 1)))))], [.cells 24 [.val (.int .i64 ((v2).Left)), .val (.int .i64 ((v2).Next))], .free]⟩) (by subst e3; kernel_rfl) ?_
  refine Wp_cond (((!((true))) || (((v2).Left) != (v3))) || (decide (((v2).Left) < 1))) (by kernel_rfl) (fun h1 => ?_) (fun h1 => ?_)
  · refine Wp_seq ?_
    refine Wp_reg hY [] (fun _ => 0) [] (ob := []) (st' := ⟨mk 96 [(0, .val (.int .i64 v1)), (1, .sl (.ints a1)), (4, .val (.bool false)), (5, .ptr 0 0), (6, .val (.int .i64 0)), (7, .val (.int .i64 0)), (30, .val (.bool (((!((true))) || (((v2).Left) != (v3))) || (decide (((v2).Left) < 1)))))], [.cells 24 [.val (.int .i64 ((v2).Left)), .val (.int .i64 ((v2).Next))], .free]⟩) (by kernel_rfl) trivial ?_
    refine Wp_ret ?_
    exact ⟨[.val (.bool false)], by kernel_rfl, by (exfalso; have hp := pick_in (k := a0); rw [← e1] at hp; have hA := allowance_in hp; subst e2; simp only [meterNew, ← e3] at h1; rw [← e3] at hA; simp [] at h1; omega)⟩
  · refine Wp_skip ?_
    refine Wp_seq ?_
    refine Wp_seq ?_
    refine Wp_reg hY [] (fun _ => 0) [] (ob := []) (st' := ⟨mk 96 [(0, .val (.int .i64 v1)), (1, .sl (.ints a1)), (4, .val (.bool false)), (5, .ptr 0 0), (6, .val (.int .i64 0)), (7, .val (.int .i64 0)), (8, .val (.int .i64 0)), (30, .val (.bool (((!((true))) || (((v2).Left) != (v3))) || (decide (((v2).Left) < 1)))))], [.cells 24 [.val (.int .i64 ((v2).Left)), .val (.int .i64 ((v2).Next))], .free]⟩) (by kernel_rfl) trivial ?_
    refine Wp_block ?_
    refine Wp_loop (ι := MBI a0 a1) (fun x => ⟨mk 96 [(0, .val (.int .i64 v1)), (1, .sl (.ints a1)), (4, .val (.bool false)), (5, .ptr 0 0), (6, .val (.int .i64 x.1.2.1)), (7, .val (.int .i64 x.1.2.2.1)), (8, .val (.int .i64 (((x.1.2.2.2 : Nat) : Int))))], [.cells 24 [.val (.int .i64 x.1.1.Left), .val (.int .i64 x.1.1.Next)], .free]⟩) (fun x => a1.length - x.1.2.2.2) [9, 10, 11, 30, 31, 32, 33, 34, 35, 36, 37, 38, 39, 40, 41, 42, 43, 44, 45, 46, 47, 48, 49, 50, 51, 52, 53, 54, 55, 56, 57, 58, 59, 60, 61, 62, 63, 64, 65, 66, 67] [1] (MBI.start a0 a1 e1 e2) (by kernel_rfl) (by kernel_rfl) ?_
    intro x
    obtain ⟨hx1, hx2, hx3, hx4, hx5, hx6, hx7⟩ := x.2
    have hv := pick_in (k := a0)
    rw [← e1] at hv hx1 hx4
    have hA := allowance_in hv
    refine Wp_seq ?_
    refine Wp_seq ?_
    refine Wp_reg hY [] (fun _ => 0) [31, 32, 33] (ob := []) (st' := ⟨mk 96 [(0, .val (.int .i64 v1)), (1, .sl (.ints a1)), (4, .val (.bool false)), (5, .ptr 0 0), (6, .val (.int .i64 x.1.2.1)), (7, .val (.int .i64 x.1.2.2.1)), (8, .val (.int .i64 (((x.1.2.2.2 : Nat) : Int)))), (34, .val (.bool (decide ((((x.1.2.2.2 : Nat) : Int)) < (((a1.length : Nat) : Int))))))], [.cells 24 [.val (.int .i64 x.1.1.Left), .val (.int .i64 x.1.1.Next)], .free]⟩) (by kernel_rfl) trivial ?_
    refine Wp_cond (decide ((((x.1.2.2.2 : Nat) : Int)) < (((a1.length : Nat) : Int)))) (by kernel_rfl) (fun h2 => ?_) (fun h2 => ?_)
    · refine Wp_skip ?_
      refine Wp_seq ?_
      refine Wp_block ?_
      refine Wp_seq ?_
      refine Wp_reg hY [] (fun _ => 0) [37, 38, 39, 40, 41, 42] (ob := [0 ≤ ((x.1.2.2.2 : Nat) : Int) ∧ ((x.1.2.2.2 : Nat) : Int) < ((Sl.len (.ints a1) : Nat) : Int), (1099511627776 : Int) ≠ 0]) (st' := ⟨mk 96 [(0, .val (.int .i64 v1)), (1, .sl (.ints a1)), (4, .val (.bool false)), (5, .ptr 0 0), (6, .val (.int .i64 x.1.2.1)), (7, .val (.int .i64 x.1.2.2.1)), (8, .val (.int .i64 (((x.1.2.2.2 : Nat) : Int)))), (9, .val (.int .i64 (IntKind.i64.wrap (1 + ((pick ((a1).getD ((((x.1.2.2.2 : Nat) : Int)).toNat) 0) 1099511627776)))))), (34, .val (.bool (decide ((((x.1.2.2.2 : Nat) : Int)) < (((a1.length : Nat) : Int))))))], [.cells 24 [.val (.int .i64 x.1.1.Left), .val (.int .i64 x.1.1.Next)], .free]⟩) (by kernel_rfl) (by have := of_decide_eq_true h2; refine ⟨⟨?_, ?_⟩, ?_, trivial⟩ <;> first | (simp only [Sl.len]; omega) | omega) ?_
      refine Wp_seq ?_
      obtain ⟨v4, e4⟩ : ∃ v, v = pick ((a1).getD ((((x.1.2.2.2 : Nat) : Int)).toNat) 0) 1099511627776 := ⟨_, rfl⟩
      refine Wp_eq (st' := ⟨mk 96 [(0, .val (.int .i64 v1)), (1, .sl (.ints a1)), (4, .val (.bool false)), (5, .ptr 0 0), (6, .val (.int .i64 x.1.2.1)), (7, .val (.int .i64 x.1.2.2.1)), (8, .val (.int .i64 (((x.1.2.2.2 : Nat) : Int)))), (9, .val (.int .i64 (IntKind.i64.wrap (1 + (v4))))), (34, .val (.bool (decide ((((x.1.2.2.2 : Nat) : Int)) < (((a1.length : Nat) : Int))))))], [.cells 24 [.val (.int .i64 x.1.1.Left), .val (.int .i64 x.1.1.Next)], .free]⟩) (by subst e4; kernel_rfl) ?_
      obtain ⟨v5, e5⟩ : ∃ v, v = IntKind.i64.wrap (1 + (v4)) := ⟨_, rfl⟩
      refine Wp_eq (st' := ⟨mk 96 [(0, .val (.int .i64 v1)), (1, .sl (.ints a1)), (4, .val (.bool false)), (5, .ptr 0 0), (6, .val (.int .i64 x.1.2.1)), (7, .val (.int .i64 x.1.2.2.1)), (8, .val (.int .i64 (((x.1.2.2.2 : Nat) : Int)))), (9, .val (.int .i64 v5)), (34, .val (.bool (decide ((((x.1.2.2.2 : Nat) : Int)) < (((a1.length : Nat) : Int))))))], [.cells 24 [.val (.int .i64 x.1.1.Left), .val (.int .i64 x.1.1.Next)], .free]⟩) (by subst e5; kernel_rfl) ?_
      refine Wp_reg hY [] (nth [0, 0, 0, 0, 0, 0, 1]) [43, 44, 45, 46, 47, 48] (ob := []) (st' := ⟨mk 96 [(0, .val (.int .i64 v1)), (1, .sl (.ints a1)), (4, .val (.bool false)), (5, .ptr 0 0), (6, .val (.int .i64 x.1.2.1)), (7, .val (.int .i64 x.1.2.2.1)), (8, .val (.int .i64 (((x.1.2.2.2 : Nat) : Int)))), (9, .val (.int .i64 v5)), (10, .ptr 1 0), (11, .val (.bool ((meterTake x.1.1 v5).2))), (34, .val (.bool (decide ((((x.1.2.2.2 : Nat) : Int)) < (((a1.length : Nat) : Int))))))], [.cells 24 [.val (.int .i64 x.1.1.Left), .val (.int .i64 x.1.1.Next)], .cells 24 [.val (.int .i64 (((meterTake x.1.1 v5).1).Left)), .val (.int .i64 (((meterTake x.1.1 v5).1).Next))]]⟩) (by kernel_rfl) trivial ?_
      refine Wp_seq ?_
      refine Wp_seq ?_
      obtain ⟨v6, e6⟩ : ∃ v, v = meterTake x.1.1 v5 := ⟨_, rfl⟩
      refine Wp_eq (st' := ⟨mk 96 [(0, .val (.int .i64 v1)), (1, .sl (.ints a1)), (4, .val (.bool false)), (5, .ptr 0 0), (6, .val (.int .i64 x.1.2.1)), (7, .val (.int .i64 x.1.2.2.1)), (8, .val (.int .i64 (((x.1.2.2.2 : Nat) : Int)))), (9, .val (.int .i64 v5)), (10, .ptr 1 0), (11, .val (.bool v6.2)), (34, .val (.bool (decide ((((x.1.2.2.2 : Nat) : Int)) < (((a1.length : Nat) : Int))))))], [.cells 24 [.val (.int .i64 x.1.1.Left), .val (.int .i64 x.1.1.Next)], .cells 24 [.val (.int .i64 ((v6.1).Left)), .val (.int .i64 ((v6.1).Next))]]⟩) (by subst e6; kernel_rfl) ?_
      refine Wp_reg hY [] (fun _ => 0) [] (ob := []) (st' := ⟨mk 96 [(0, .val (.int .i64 v1)), (1, .sl (.ints a1)), (4, .val (.bool false)), (5, .ptr 0 0), (6, .val (.int .i64 x.1.2.1)), (7, .val (.int .i64 x.1.2.2.1)), (8, .val (.int .i64 (((x.1.2.2.2 : Nat) : Int)))), (9, .val (.int .i64 v5)), (10, .ptr 1 0), (11, .val (.bool v6.2)), (34, .val (.bool (decide ((((x.1.2.2.2 : Nat) : Int)) < (((a1.length : Nat) : Int)))))), (49, .val (.bool v6.2))], [.cells 24 [.val (.int .i64 x.1.1.Left), .val (.int .i64 x.1.1.Next)], .cells 24 [.val (.int .i64 ((v6.1).Left)), .val (.int .i64 ((v6.1).Next))]]⟩) (by kernel_rfl) trivial ?_
      refine Wp_cond v6.2 (by kernel_rfl) (fun h3 => ?_) (fun h3 => ?_)
      · refine Wp_reg hY [] (fun _ => 0) [50, 51, 52, 53] (ob := []) (st' := ⟨mk 96 [(0, .val (.int .i64 v1)), (1, .sl (.ints a1)), (4, .val (.bool false)), (5, .ptr 0 0), (6, .val (.int .i64 (IntKind.i64.wrap (x.1.2.1 + v5)))), (7, .val (.int .i64 v5)), (8, .val (.int .i64 (((x.1.2.2.2 : Nat) : Int)))), (9, .val (.int .i64 v5)), (10, .ptr 1 0), (11, .val (.bool v6.2)), (34, .val (.bool (decide ((((x.1.2.2.2 : Nat) : Int)) < (((a1.length : Nat) : Int)))))), (49, .val (.bool v6.2))], [.cells 24 [.val (.int .i64 x.1.1.Left), .val (.int .i64 x.1.1.Next)], .cells 24 [.val (.int .i64 ((v6.1).Left)), .val (.int .i64 ((v6.1).Next))]]⟩) (by kernel_rfl) trivial ?_
        refine Wp_seq ?_
        obtain ⟨v7, e7⟩ : ∃ v, v = IntKind.i64.wrap (x.1.2.1 + v5) := ⟨_, rfl⟩
        refine Wp_eq (st' := ⟨mk 96 [(0, .val (.int .i64 v1)), (1, .sl (.ints a1)), (4, .val (.bool false)), (5, .ptr 0 0), (6, .val (.int .i64 v7)), (7, .val (.int .i64 v5)), (8, .val (.int .i64 (((x.1.2.2.2 : Nat) : Int)))), (9, .val (.int .i64 v5)), (10, .ptr 1 0), (11, .val (.bool v6.2)), (34, .val (.bool (decide ((((x.1.2.2.2 : Nat) : Int)) < (((a1.length : Nat) : Int)))))), (49, .val (.bool v6.2))], [.cells 24 [.val (.int .i64 x.1.1.Left), .val (.int .i64 x.1.1.Next)], .cells 24 [.val (.int .i64 ((v6.1).Left)), .val (.int .i64 ((v6.1).Next))]]⟩) (by subst e7; kernel_rfl) ?_
        refine Wp_reg hY [] (fun _ => 0) [57] (ob := []) (st' := ⟨mk 96 [(0, .val (.int .i64 v1)), (1, .sl (.ints a1)), (4, .val (.bool false)), (5, .ptr 0 0), (6, .val (.int .i64 v7)), (7, .val (.int .i64 v5)), (8, .val (.int .i64 (((x.1.2.2.2 : Nat) : Int)))), (9, .val (.int .i64 v5)), (10, .ptr 1 0), (11, .val (.bool v6.2)), (34, .val (.bool (decide ((((x.1.2.2.2 : Nat) : Int)) < (((a1.length : Nat) : Int)))))), (49, .val (.bool v6.2))], [.cells 24 [.val (.int .i64 ((v6.1).Left)), .val (.int .i64 ((v6.1).Next))], .cells 24 [.val (.int .i64 ((v6.1).Left)), .val (.int .i64 ((v6.1).Next))]]⟩) (by kernel_rfl) trivial ?_
        refine Wp_seq ?_
        refine Wp_reg hY [64] (fun _ => 0) [58, 59, 60, 61, 62, 63, 64, 65, 66] (ob := []) (st' := ⟨mk 96 [(0, .val (.int .i64 v1)), (1, .sl (.ints a1)), (4, .val (.bool false)), (5, .ptr 0 0), (6, .val (.int .i64 v7)), (7, .val (.int .i64 v5)), (8, .val (.int .i64 (((x.1.2.2.2 : Nat) : Int)))), (9, .val (.int .i64 v5)), (10, .ptr 1 0), (11, .val (.bool v6.2)), (34, .val (.bool (decide ((((x.1.2.2.2 : Nat) : Int)) < (((a1.length : Nat) : Int)))))), (49, .val (.bool v6.2)), (67, .val (.bool ((decide ((IntKind.i64.wrap (v7 - v5)) ≥ ((allowance v1)))) && (decide (v7 > 0)))))], [.cells 24 [.val (.int .i64 ((v6.1).Left)), .val (.int .i64 ((v6.1).Next))], .cells 24 [.val (.int .i64 ((v6.1).Left)), .val (.int .i64 ((v6.1).Next))]]⟩) (by kernel_rfl) trivial ?_
        obtain ⟨v8, e8⟩ : ∃ v, v = allowance v1 := ⟨_, rfl⟩
        refine Wp_eq (st' := ⟨mk 96 [(0, .val (.int .i64 v1)), (1, .sl (.ints a1)), (4, .val (.bool false)), (5, .ptr 0 0), (6, .val (.int .i64 v7)), (7, .val (.int .i64 v5)), (8, .val (.int .i64 (((x.1.2.2.2 : Nat) : Int)))), (9, .val (.int .i64 v5)), (10, .ptr 1 0), (11, .val (.bool v6.2)), (34, .val (.bool (decide ((((x.1.2.2.2 : Nat) : Int)) < (((a1.length : Nat) : Int)))))), (49, .val (.bool v6.2)), (67, .val (.bool ((decide ((IntKind.i64.wrap (v7 - v5)) ≥ (v8))) && (decide (v7 > 0)))))], [.cells 24 [.val (.int .i64 ((v6.1).Left)), .val (.int .i64 ((v6.1).Next))], .cells 24 [.val (.int .i64 ((v6.1).Left)), .val (.int .i64 ((v6.1).Next))]]⟩) (by subst e8; kernel_rfl) ?_
        refine Wp_cond ((decide ((IntKind.i64.wrap (v7 - v5)) ≥ (v8))) && (decide (v7 > 0))) (by kernel_rfl) (fun h4 => ?_) (fun h4 => ?_)
        · refine Wp_seq ?_
          refine Wp_reg hY [] (fun _ => 0) [] (ob := []) (st' := ⟨mk 96 [(0, .val (.int .i64 v1)), (1, .sl (.ints a1)), (4, .val (.bool false)), (5, .ptr 0 0), (6, .val (.int .i64 v7)), (7, .val (.int .i64 v5)), (8, .val (.int .i64 (((x.1.2.2.2 : Nat) : Int)))), (9, .val (.int .i64 v5)), (10, .ptr 1 0), (11, .val (.bool v6.2)), (34, .val (.bool (decide ((((x.1.2.2.2 : Nat) : Int)) < (((a1.length : Nat) : Int)))))), (49, .val (.bool v6.2)), (67, .val (.bool ((decide ((IntKind.i64.wrap (v7 - v5)) ≥ (v8))) && (decide (v7 > 0)))))], [.cells 24 [.val (.int .i64 ((v6.1).Left)), .val (.int .i64 ((v6.1).Next))], .cells 24 [.val (.int .i64 ((v6.1).Left)), .val (.int .i64 ((v6.1).Next))]]⟩) (by kernel_rfl) trivial ?_
          refine Wp_ret ?_
          exact ⟨[.val (.bool false)], by kernel_rfl, by (exfalso; have hp := pick_in (k := a1.getD (((x.1.2.2.2 : Nat) : Int)).toNat 0); rw [← e4] at hp; have hm := take_left e6 h3; simp only [IntKind.wrap_i64] at e5 e7 h4; simp only [decide_eq_true_eq, decide_eq_false_iff_not, Bool.or_eq_true, Bool.and_eq_true, Bool.or_eq_false_iff, beq_iff_eq, bne_iff_ne, beq_eq_false_iff_ne, bne_eq_false_iff_eq, Bool.not_eq_true, Bool.not_eq_false, Bool.not_eq_eq_eq_not, Bool.not_true, Bool.not_false] at h4; omega)⟩
        · refine Wp_skip ?_
          refine Wp_reg hY [] (fun _ => 0) [35, 36] (ob := []) (st' := ⟨mk 96 [(0, .val (.int .i64 v1)), (1, .sl (.ints a1)), (4, .val (.bool false)), (5, .ptr 0 0), (6, .val (.int .i64 v7)), (7, .val (.int .i64 v5)), (8, .val (.int .i64 (IntKind.i64.wrap ((((x.1.2.2.2 : Nat) : Int)) + 1)))), (9, .val (.int .i64 v5)), (10, .ptr 1 0), (11, .val (.bool v6.2)), (34, .val (.bool (decide ((((x.1.2.2.2 : Nat) : Int)) < (((a1.length : Nat) : Int)))))), (49, .val (.bool v6.2)), (67, .val (.bool ((decide ((IntKind.i64.wrap (v7 - v5)) ≥ (v8))) && (decide (v7 > 0)))))], [.cells 24 [.val (.int .i64 ((v6.1).Left)), .val (.int .i64 ((v6.1).Next))], .cells 24 [.val (.int .i64 ((v6.1).Left)), .val (.int .i64 ((v6.1).Next))]]⟩) (by kernel_rfl) trivial ?_
          exact ⟨⟨(v6.1, v7, v5, x.1.2.2.2 + 1), (by have hp := pick_in (k := a1.getD (((x.1.2.2.2 : Nat) : Int)).toNat 0); rw [← e4] at hp; have hm := take_left e6 h3; have ht := take_more hm e6; have h2 := of_decide_eq_true h2; simp only [IntKind.wrap_i64] at e5 e7 ht; refine MBP_mk e1 (by rw [ht]; simp only []; omega) (by rw [ht]; exact hx2) ?_ ?_ ?_ ?_ ?_ <;> omega)⟩, (by have := of_decide_eq_true h2; show a1.length - (x.1.2.2.2 + 1) < a1.length - x.1.2.2.2; omega), by kernel_rfl, (Eq.trans (b := (⟨mk 96 [(0, .val (.int .i64 v1)), (1, .sl (.ints a1)), (4, .val (.bool false)), (5, .ptr 0 0), (6, .val (.int .i64 v7)), (7, .val (.int .i64 v5)), (8, .val (.int .i64 (IntKind.i64.wrap ((((x.1.2.2.2 : Nat) : Int)) + 1))))], [.cells 24 [.val (.int .i64 ((v6.1).Left)), .val (.int .i64 ((v6.1).Next))], .free]⟩ : St)) (by kernel_rfl) (by (have h2 := of_decide_eq_true h2; have q : IntKind.i64.wrap (((x.1.2.2.2 : Nat) : Int) + 1) = ((x.1.2.2.2 + 1 : Nat) : Int) := (by have := hob.1; unfold maxLen at this; simp only [IntKind.wrap_i64]; omega); rw [q] <;> rfl)))⟩
      · refine Wp_seq ?_
        refine Wp_reg hY [] (fun _ => 0) [54, 55] (ob := []) (st' := ⟨mk 96 [(0, .val (.int .i64 v1)), (1, .sl (.ints a1)), (4, .val (.bool false)), (5, .ptr 0 0), (6, .val (.int .i64 x.1.2.1)), (7, .val (.int .i64 x.1.2.2.1)), (8, .val (.int .i64 (((x.1.2.2.2 : Nat) : Int)))), (9, .val (.int .i64 v5)), (10, .ptr 1 0), (11, .val (.bool v6.2)), (34, .val (.bool (decide ((((x.1.2.2.2 : Nat) : Int)) < (((a1.length : Nat) : Int)))))), (49, .val (.bool v6.2)), (56, .val (.bool (!((((v6.1).Left) == x.1.1.Left) && ((((v6.1).Next) == x.1.1.Next) && true)))))], [.cells 24 [.val (.int .i64 x.1.1.Left), .val (.int .i64 x.1.1.Next)], .cells 24 [.val (.int .i64 ((v6.1).Left)), .val (.int .i64 ((v6.1).Next))]]⟩) (by kernel_rfl) trivial ?_
        refine Wp_cond (!((((v6.1).Left) == x.1.1.Left) && ((((v6.1).Next) == x.1.1.Next) && true))) (by kernel_rfl) (fun h5 => ?_) (fun h5 => ?_)
        · refine Wp_seq ?_
          refine Wp_reg hY [] (fun _ => 0) [] (ob := []) (st' := ⟨mk 96 [(0, .val (.int .i64 v1)), (1, .sl (.ints a1)), (4, .val (.bool false)), (5, .ptr 0 0), (6, .val (.int .i64 x.1.2.1)), (7, .val (.int .i64 x.1.2.2.1)), (8, .val (.int .i64 (((x.1.2.2.2 : Nat) : Int)))), (9, .val (.int .i64 v5)), (10, .ptr 1 0), (11, .val (.bool v6.2)), (34, .val (.bool (decide ((((x.1.2.2.2 : Nat) : Int)) < (((a1.length : Nat) : Int)))))), (49, .val (.bool v6.2)), (56, .val (.bool (!((((v6.1).Left) == x.1.1.Left) && ((((v6.1).Next) == x.1.1.Next) && true)))))], [.cells 24 [.val (.int .i64 x.1.1.Left), .val (.int .i64 x.1.1.Next)], .cells 24 [.val (.int .i64 ((v6.1).Left)), .val (.int .i64 ((v6.1).Next))]]⟩) (by kernel_rfl) trivial ?_
          refine Wp_ret ?_
          exact ⟨[.val (.bool false)], by kernel_rfl, by (exfalso; have hm := take_same e6 h3; rw [hm] at h5; simp at h5)⟩
        · refine Wp_skip ?_
          refine Wp_seq ?_
          refine Wp_reg hY [] (fun _ => 0) [57] (ob := []) (st' := ⟨mk 96 [(0, .val (.int .i64 v1)), (1, .sl (.ints a1)), (4, .val (.bool false)), (5, .ptr 0 0), (6, .val (.int .i64 x.1.2.1)), (7, .val (.int .i64 x.1.2.2.1)), (8, .val (.int .i64 (((x.1.2.2.2 : Nat) : Int)))), (9, .val (.int .i64 v5)), (10, .ptr 1 0), (11, .val (.bool v6.2)), (34, .val (.bool (decide ((((x.1.2.2.2 : Nat) : Int)) < (((a1.length : Nat) : Int)))))), (49, .val (.bool v6.2)), (56, .val (.bool (!((((v6.1).Left) == x.1.1.Left) && ((((v6.1).Next) == x.1.1.Next) && true)))))], [.cells 24 [.val (.int .i64 ((v6.1).Left)), .val (.int .i64 ((v6.1).Next))], .cells 24 [.val (.int .i64 ((v6.1).Left)), .val (.int .i64 ((v6.1).Next))]]⟩) (by kernel_rfl) trivial ?_
          refine Wp_seq ?_
          refine Wp_reg hY [64] (fun _ => 0) [58, 59, 60, 61, 62, 63, 64, 65, 66] (ob := []) (st' := ⟨mk 96 [(0, .val (.int .i64 v1)), (1, .sl (.ints a1)), (4, .val (.bool false)), (5, .ptr 0 0), (6, .val (.int .i64 x.1.2.1)), (7, .val (.int .i64 x.1.2.2.1)), (8, .val (.int .i64 (((x.1.2.2.2 : Nat) : Int)))), (9, .val (.int .i64 v5)), (10, .ptr 1 0), (11, .val (.bool v6.2)), (34, .val (.bool (decide ((((x.1.2.2.2 : Nat) : Int)) < (((a1.length : Nat) : Int)))))), (49, .val (.bool v6.2)), (56, .val (.bool (!((((v6.1).Left) == x.1.1.Left) && ((((v6.1).Next) == x.1.1.Next) && true))))), (67, .val (.bool ((decide ((IntKind.i64.wrap (x.1.2.1 - x.1.2.2.1)) ≥ ((allowance v1)))) && (decide (x.1.2.1 > 0)))))], [.cells 24 [.val (.int .i64 ((v6.1).Left)), .val (.int .i64 ((v6.1).Next))], .cells 24 [.val (.int .i64 ((v6.1).Left)), .val (.int .i64 ((v6.1).Next))]]⟩) (by kernel_rfl) trivial ?_
          obtain ⟨v9, e9⟩ : ∃ v, v = allowance v1 := ⟨_, rfl⟩
          refine Wp_eq (st' := ⟨mk 96 [(0, .val (.int .i64 v1)), (1, .sl (.ints a1)), (4, .val (.bool false)), (5, .ptr 0 0), (6, .val (.int .i64 x.1.2.1)), (7, .val (.int .i64 x.1.2.2.1)), (8, .val (.int .i64 (((x.1.2.2.2 : Nat) : Int)))), (9, .val (.int .i64 v5)), (10, .ptr 1 0), (11, .val (.bool v6.2)), (34, .val (.bool (decide ((((x.1.2.2.2 : Nat) : Int)) < (((a1.length : Nat) : Int)))))), (49, .val (.bool v6.2)), (56, .val (.bool (!((((v6.1).Left) == x.1.1.Left) && ((((v6.1).Next) == x.1.1.Next) && true))))), (67, .val (.bool ((decide ((IntKind.i64.wrap (x.1.2.1 - x.1.2.2.1)) ≥ (v9))) && (decide (x.1.2.1 > 0)))))], [.cells 24 [.val (.int .i64 ((v6.1).Left)), .val (.int .i64 ((v6.1).Next))], .cells 24 [.val (.int .i64 ((v6.1).Left)), .val (.int .i64 ((v6.1).Next))]]⟩) (by subst e9; kernel_rfl) ?_
          refine Wp_cond ((decide ((IntKind.i64.wrap (x.1.2.1 - x.1.2.2.1)) ≥ (v9))) && (decide (x.1.2.1 > 0))) (by kernel_rfl) (fun h6 => ?_) (fun h6 => ?_)
          · refine Wp_seq ?_
            refine Wp_reg hY [] (fun _ => 0) [] (ob := []) (st' := ⟨mk 96 [(0, .val (.int .i64 v1)), (1, .sl (.ints a1)), (4, .val (.bool false)), (5, .ptr 0 0), (6, .val (.int .i64 x.1.2.1)), (7, .val (.int .i64 x.1.2.2.1)), (8, .val (.int .i64 (((x.1.2.2.2 : Nat) : Int)))), (9, .val (.int .i64 v5)), (10, .ptr 1 0), (11, .val (.bool v6.2)), (34, .val (.bool (decide ((((x.1.2.2.2 : Nat) : Int)) < (((a1.length : Nat) : Int)))))), (49, .val (.bool v6.2)), (56, .val (.bool (!((((v6.1).Left) == x.1.1.Left) && ((((v6.1).Next) == x.1.1.Next) && true))))), (67, .val (.bool ((decide ((IntKind.i64.wrap (x.1.2.1 - x.1.2.2.1)) ≥ (v9))) && (decide (x.1.2.1 > 0)))))], [.cells 24 [.val (.int .i64 ((v6.1).Left)), .val (.int .i64 ((v6.1).Next))], .cells 24 [.val (.int .i64 ((v6.1).Left)), .val (.int .i64 ((v6.1).Next))]]⟩) (by kernel_rfl) trivial ?_
            refine Wp_ret ?_
            exact ⟨[.val (.bool false)], by kernel_rfl, by (exfalso; simp only [IntKind.wrap_i64] at h6; simp only [decide_eq_true_eq, decide_eq_false_iff_not, Bool.or_eq_true, Bool.and_eq_true, Bool.or_eq_false_iff, beq_iff_eq, bne_iff_ne, beq_eq_false_iff_ne, bne_eq_false_iff_eq, Bool.not_eq_true, Bool.not_eq_false, Bool.not_eq_eq_eq_not, Bool.not_true, Bool.not_false] at h6; omega)⟩
          · refine Wp_skip ?_
            refine Wp_reg hY [] (fun _ => 0) [35, 36] (ob := []) (st' := ⟨mk 96 [(0, .val (.int .i64 v1)), (1, .sl (.ints a1)), (4, .val (.bool false)), (5, .ptr 0 0), (6, .val (.int .i64 x.1.2.1)), (7, .val (.int .i64 x.1.2.2.1)), (8, .val (.int .i64 (IntKind.i64.wrap ((((x.1.2.2.2 : Nat) : Int)) + 1)))), (9, .val (.int .i64 v5)), (10, .ptr 1 0), (11, .val (.bool v6.2)), (34, .val (.bool (decide ((((x.1.2.2.2 : Nat) : Int)) < (((a1.length : Nat) : Int)))))), (49, .val (.bool v6.2)), (56, .val (.bool (!((((v6.1).Left) == x.1.1.Left) && ((((v6.1).Next) == x.1.1.Next) && true))))), (67, .val (.bool ((decide ((IntKind.i64.wrap (x.1.2.1 - x.1.2.2.1)) ≥ (v9))) && (decide (x.1.2.1 > 0)))))], [.cells 24 [.val (.int .i64 ((v6.1).Left)), .val (.int .i64 ((v6.1).Next))], .cells 24 [.val (.int .i64 ((v6.1).Left)), .val (.int .i64 ((v6.1).Next))]]⟩) (by kernel_rfl) trivial ?_
            exact ⟨⟨(v6.1, x.1.2.1, x.1.2.2.1, x.1.2.2.2 + 1), (by have hm := take_same e6 h3; have h2 := of_decide_eq_true h2; rw [hm]; exact MBP_mk e1 hx1 hx2 hx3 hx4 hx5 hx6 (by omega))⟩, (by have := of_decide_eq_true h2; show a1.length - (x.1.2.2.2 + 1) < a1.length - x.1.2.2.2; omega), by kernel_rfl, (Eq.trans (b := (⟨mk 96 [(0, .val (.int .i64 v1)), (1, .sl (.ints a1)), (4, .val (.bool false)), (5, .ptr 0 0), (6, .val (.int .i64 x.1.2.1)), (7, .val (.int .i64 x.1.2.2.1)), (8, .val (.int .i64 (IntKind.i64.wrap ((((x.1.2.2.2 : Nat) : Int)) + 1))))], [.cells 24 [.val (.int .i64 ((v6.1).Left)), .val (.int .i64 ((v6.1).Next))], .free]⟩ : St)) (by kernel_rfl) (by (have h2 := of_decide_eq_true h2; have q : IntKind.i64.wrap (((x.1.2.2.2 : Nat) : Int) + 1) = ((x.1.2.2.2 + 1 : Nat) : Int) := (by have := hob.1; unfold maxLen at this; simp only [IntKind.wrap_i64]; omega); rw [q] <;> rfl)))⟩
    · refine Wp_exit ?_
      refine Wp_seq ?_
      refine Wp_reg hY [] (nth [0, 0, 0, 0, 0, 1]) [68, 69, 70, 71, 72] (ob := []) (st' := ⟨mk 96 [(0, .val (.int .i64 v1)), (1, .sl (.ints a1)), (4, .val (.bool false)), (5, .ptr 0 0), (6, .val (.int .i64 x.1.2.1)), (7, .val (.int .i64 x.1.2.2.1)), (8, .val (.int .i64 (((x.1.2.2.2 : Nat) : Int)))), (12, .ptr 1 0), (34, .val (.bool (decide ((((x.1.2.2.2 : Nat) : Int)) < (((a1.length : Nat) : Int))))))], [.cells 24 [.val (.int .i64 x.1.1.Left), .val (.int .i64 x.1.1.Next)], .cells 24 [.val (.int .i64 (((meterTick x.1.1 v1 x.1.1.Next)).Left)), .val (.int .i64 (((meterTick x.1.1 v1 x.1.1.Next)).Next))]]⟩) (by kernel_rfl) trivial ?_
      refine Wp_seq ?_
      obtain ⟨v10, e10⟩ : ∃ v, v = meterTick x.1.1 v1 x.1.1.Next := ⟨_, rfl⟩
      refine Wp_eq (st' := ⟨mk 96 [(0, .val (.int .i64 v1)), (1, .sl (.ints a1)), (4, .val (.bool false)), (5, .ptr 0 0), (6, .val (.int .i64 x.1.2.1)), (7, .val (.int .i64 x.1.2.2.1)), (8, .val (.int .i64 (((x.1.2.2.2 : Nat) : Int)))), (12, .ptr 1 0), (34, .val (.bool (decide ((((x.1.2.2.2 : Nat) : Int)) < (((a1.length : Nat) : Int))))))], [.cells 24 [.val (.int .i64 x.1.1.Left), .val (.int .i64 x.1.1.Next)], .cells 24 [.val (.int .i64 ((v10).Left)), .val (.int .i64 ((v10).Next))]]⟩) (by subst e10; kernel_rfl) ?_
      refine Wp_drw hY hmix [81, 88] (fun _ => 0) (fpl [⟨[5], [0], []⟩, ⟨[0], [], []⟩, ⟨[5], [], []⟩, ⟨[75], [0], []⟩, ⟨[76], [], []⟩, ⟨[73, 74, 77], [], []⟩, ⟨[5], [0], []⟩, ⟨[78, 79], [], []⟩, ⟨[80], [], []⟩, ⟨[12, 81], [], []⟩, ⟨[81, 82], [1], []⟩, ⟨[0, 81], [], []⟩, ⟨[81, 84], [], []⟩, ⟨[81, 83, 85], [], []⟩, ⟨[81, 86], [], []⟩, ⟨[87], [], []⟩, ⟨[12, 88], [], []⟩, ⟨[88, 89], [1], []⟩, ⟨[5, 88], [], []⟩, ⟨[88, 91], [0], []⟩, ⟨[88, 90, 92], [], []⟩, ⟨[88, 93], [], []⟩, ⟨[88, 94], [], []⟩, ⟨[95], [], []⟩]) [73, 74, 75, 76, 77, 78, 79, 80, 81, 82, 83, 84, 85, 86, 87, 88, 89, 90, 91, 92, 93, 94, 95] (by kernel_rfl) (ob := []) (st' := ⟨mk 96 [(0, .val (.int .i64 v1)), (1, .sl (.ints a1)), (4, .val (.bool (((((((meterTick x.1.1 v1 (IntKind.i64.wrap (x.1.1.Next - 1)))).Left) == x.1.1.Left) && (((((meterTick x.1.1 v1 (IntKind.i64.wrap (x.1.1.Next - 1)))).Next) == x.1.1.Next) && true)) && (((v10).Left) == ((allowance v1)))) && ((IntKind.i64.wrap (((v10).Next) - x.1.1.Next)) == 10)))), (5, .ptr 0 0), (6, .val (.int .i64 x.1.2.1)), (7, .val (.int .i64 x.1.2.2.1)), (8, .val (.int .i64 (((x.1.2.2.2 : Nat) : Int)))), (12, .ptr 1 0), (34, .val (.bool (decide ((((x.1.2.2.2 : Nat) : Int)) < (((a1.length : Nat) : Int))))))], [.cells 24 [.val (.int .i64 x.1.1.Left), .val (.int .i64 x.1.1.Next)], .cells 24 [.val (.int .i64 ((v10).Left)), .val (.int .i64 ((v10).Next))]]⟩) (by kernel_rfl) trivial ?_
      refine Wp_ret ?_
      exact ⟨[.val (.bool (((((((meterTick x.1.1 v1 (IntKind.i64.wrap (x.1.1.Next - 1)))).Left) == x.1.1.Left) && (((((meterTick x.1.1 v1 (IntKind.i64.wrap (x.1.1.Next - 1)))).Next) == x.1.1.Next) && true)) && (((v10).Left) == ((allowance v1)))) && ((IntKind.i64.wrap (((v10).Next) - x.1.1.Next)) == 10)))], by kernel_rfl, by (
        have t1 : v10 = ⟨allowance v1, 20⟩ := by rw [e10]; unfold meterTick; rw [if_pos (Int.le_refl _)]; unfold meterNew; rw [hx2]; rfl
        have t2 : meterTick x.1.1 v1 (IntKind.i64.wrap (x.1.1.Next - 1)) = x.1.1 := by unfold meterTick; rw [if_neg (by rw [hx2]; decide)]
        refine congrArg (fun b => AV.val (.bool b)) (Eq.symm ?_)
        rw [t1, t2, hx2]
        simp
        exact (by decide : (IntKind.i64.wrap 10 == 10) = true))⟩

theorem op_int_3 : OpenT Try.prog 3 (fun a => [intP.e a]) i64 := open_i (by kernel_rfl)
theorem op_ints_31 : OpenT Try.prog 31 (fun l => [intsP.e l]) (fun l => l.length ≤ maxLen ∧ ∀ a, a ∈ l → i64 a) := open_sl .ints 0 (fun a => [intP.e a]) (by kernel_rfl) op_int_3 (fun _ => rfl) (fun _ => by kernel_rfl) (fun _ _ => rfl)
set_option maxRecDepth 100000 in
theorem lifted5 (os : Os) (started : os.Started) (H : Type) (enc : TypeId × Value → H) :
    ReturnsInHanded {} Try.checked os 5 .any (Rows.meterBoundsSpec.pre6 enc Try.prog Try.f5 Rows.meterBoundsRow.domain false) (Rows.meterBoundsSpec.post enc Try.prog Try.f5 false true false false) := by
  refine returnsInHanded_of_change (C := Try.checked) Facts.own started (by kernel_rfl) Try.func5
    (ChangeSpec.witness6 (enc := enc) (C := Try.checked) false ⟨#[], #[.int .i64 0, .slice none 0 0], []⟩ 8 (by kernel_rfl) (by kernel_rfl) (by kernel_rfl) (by kernel_rfl)) ?_
  intro W base args ds gs before hval0 hW hcnd _
  have hval : ∀ (j : Nat) t v, Try.f5.params[j]? = some t → args[j]? = some v → Value.okWide Try.prog W .any base t v := hval0
  have hW' := hW
  obtain ⟨p, q, hA0, hV, hbf, hfz, hnd⟩ := hW
  have hA : DataW.TrodAll enc Try.prog W 0 (fun _ => true) true Try.f5.params.toList args.toList ds p := hA0
  rw [Try.params5] at hA hval
  obtain ⟨v0, vs0, d0, ds0, p0, q0, hargs, rfl, hp0, h0, r0⟩ := trodAll_cons hA
  obtain ⟨v1, vs1, d1, ds1, p1, q1, rfl, rfl, hp1, h1, r1⟩ := trodAll_cons r0
  obtain ⟨rfl, rfl, hp⟩ := trodAll_nil r1
  obtain rfl : args = #[v0, v1] := by cases args; simp_all
  obtain ⟨rfl, rfl⟩ := trodVars_none hV
  obtain ⟨a0, A0, o0⟩ := (openA_one op_int_3 ⟨.int .i64, by kernel_rfl, by rfl⟩) H enc W base _ _ v0 d0 p0 (hval 0 3 v0 rfl rfl) h0 (cx0 W) rfl (cx0_L W)
  obtain ⟨a1, A1, o1⟩ := (openA_one op_ints_31 ⟨.slice 3, by kernel_rfl, by rfl⟩) H enc W base _ _ v1 d1 p1 (hval 1 31 v1 rfl rfl) h1 (cx0 W) rfl (cx0_L W)
  refine (law_calls ok5 (.cons A0 (.cons A1 .nil)) (by rfl) (by exact ⟨o1.1, trivial⟩) (by rfl) rfl).mono fun e W' ⟨he, hb⟩ => ⟨_, he, ?_⟩
  exact law_post Facts.laid hW' hA0 (hbf.trans (List.append_nil _)) rfl rfl (by kernel_rfl) (by kernel_rfl) rfl rfl (by rw [Try.params5]; intro t ht; simp only [List.mem_cons, List.mem_nil_iff, or_false] at ht; (try rcases ht with rfl | rfl) <;> exact ⟨by kernel_rfl, of_decide_eq_true (by kernel_rfl)⟩) hb

theorem joined5 : joinedFacts Try.prog 5 Try.f5 Rows.meterBoundsSpec Rows.meterBoundsRow = true := by
  unfold joinedFacts
  rw [Facts.laid, Facts.maps, Facts.stops, Facts.stopKnobs, Facts.heard, Facts.plainKeys, Facts.mayEnter, Facts.lifts, Facts.make]
  simp only [Bool.and_eq_true]
  repeat' apply And.intro
  all_goals first | (with_reducible exact True.intro) | (as_aux_lemma => kernel_rfl)

theorem over5 : Rows.meterBoundsRow.holds Try.pinned (OpenSpec.ofChange Rows.meterBoundsSpec) :=
  OpenClaim.holds_of_wide 5 Try.f5 rfl rfl rfl rfl rfl rfl rfl ⟨rfl, rfl, rfl, rfl, rfl⟩ rfl rfl rfl rfl rfl (by as_aux_lemma => kernel_rfl) Try.func5 joined5
    (of_decide_eq_true (by kernel_rfl)) (by unfold Func.isWrapper; first | (rw [if_pos (by decide +kernel)]; kernel_rfl) | (rw [if_neg (by decide +kernel)]; exact ⟨rfl, rfl⟩))
    (fun os started H enc _ => lifted5 os started H enc)

theorem proved : Rows.MeterBoundsSaid :=
  over5

end Go.Proofs.Ytfmcmcbckhmfaaa.Ab
