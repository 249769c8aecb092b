/-
  The laws of stakes that compare with the document, with no program in sight.
-/
import Derived.Test.YtbpehnghffljiaaFStakeB
import Derived.Test.YtbpehnghffljiaaFStakeA
import Derived.Test.YtbpehnghffljiaaFRefA
import Derived.Test.YtbpehnghffljiaaPlStake4
import Derived.Test.YtbpehnghffljiaaFStakeLaw
namespace Go.Proofs.Ytbpehnghffljiaa.Ab
open Go Go.RowKit
set_option linter.unusedVariables false
set_option linter.unusedSimpArgs false

theorem pl_sameS {s : Stake} (h : s.Waits.length ≤ 9223372036854775807) : sh_ref_SameStake s s = some true := by
  have key : sh_ref_SameStake_l1 s.Waits.length 0 s s = some (.inr ()) := by
    rw [sh_ref_SameStake_l1]
    refine (loop_all (F := fun s : Int × Int × Stake × Stake => (T_ref_SameStake_l1 s.1 s.2.1 s.2.2.1 s.2.2.2).run) s.Waits default (fun i => ((s.Waits.length : Int), (i : Int), s, s)) (fun _ => true) false () ?_ ?_ ?_).trans ?_
    · simp only [T_ref_SameStake_l1]; rw [Tr.run_false (by simp), Tr.run_leaf]
    · intro i hi _
      simp only [T_ref_SameStake_l1]
      rw [Int.toNat_natCast, Tr.run_true (by simpa using hi), Tr.run_guard ⟨by omega, by rw [sl_len_waits]; omega⟩, Tr.run_guard ⟨by omega, by rw [sl_len_waits]; omega⟩, Tr.run_false (by simp), Tr.run_leaf, i64_nat (by omega)]
    · intro i hi hp; cases hp
    · rw [if_pos (by simp)]
  rw [sh_ref_SameStake, T_ref_SameStake, Tr.run_false (by simp), Tr.run_inr key, Tr.run_leaf]

/-! A new stake. -/

def zeroV : Validators := ⟨⟨0, 0, 0, 0, 0, 0⟩, ⟨0, 0, 0, 0, 0, 0⟩, ⟨0, 0, 0, 0, 0, 0⟩, ⟨false, false, false, false, false, false⟩, ⟨false, false, false, false, false, false⟩⟩
def newS : Stake := ⟨newB, zeroV, ⟨⟨0, 0, 0, 0, 0, 0⟩, ⟨0, 0, 0, 0, 0, 0⟩, ⟨0, 0, 0, 0, 0, 0⟩, ⟨0, 0, 0, 0, 0, 0⟩⟩, [], 1⟩
theorem newS_good : GoodS newS := by decide
def oneS : Stake := ⟨⟨⟨99750, 100000, 100000, 100000⟩, 250, 0, 0⟩, { zeroV with Tokens := ⟨0, 250, 0, 0, 0, 0⟩, Shares := ⟨0, 250, 0, 0, 0, 0⟩ }, ⟨⟨0, 250, 0, 0, 0, 0⟩, ⟨0, 0, 0, 0, 0, 0⟩, ⟨0, 0, 0, 0, 0, 0⟩, ⟨0, 0, 0, 0, 0, 0⟩⟩, [], 1⟩
theorem oneS_good : GoodS oneS := by decide

theorem pl_stakeNew : sh_stake_New = some newS := by
  rw [sh_stake_New, T_stake_New, Tr.run_bind pl_bankNew, Tr.run_leaf]; rfl
theorem pl_refstakeNew : sh_ref_NewStake = some newS := by
  rw [sh_ref_NewStake, T_ref_NewStake, Tr.run_bind pl_refNew, Tr.run_leaf]; rfl
theorem delegate_new : delegateS newS 0 1 250 = (oneS, 0) := by
  have h : knownS newS 0 1 = 0 := by
    unfold knownS
    rw [if_neg (by simpa using newS_good), if_neg (by omega)]
  unfold delegateS
  rw [if_neg (by simpa using h), if_neg (by decide), if_neg (by omega), if_neg (by decide), if_neg (by decide), if_neg (by decide), if_neg (by decide)]
  rfl
theorem set_one : setS oneS = [⟨1, 2⟩] := by rfl

theorem pl_lawstakes : sh_law_stakes = some true := by
  rw [sh_law_stakes, T_law_stakes, Tr.run_bind pl_stakeNew, Tr.run_bind (pl_Delegate (by omega)), delegate_new, Tr.run_bind (pl_Set oneS_good), set_one]
  simp only [pl_stakeGood, oneS_good, Option.isSome_some, Option.getD_some]
  rw [Tr.run_guard (by simp), Tr.run_guard (by intro _; exact ⟨⟨by omega, by rw [sl_len_powers]; simp⟩, trivial⟩), Tr.run_leaf]
  simp

theorem pl_StakeDelegates {s : Stake} {d v n : Int} (h : s.Waits.length * 64 ≤ 140737488351232) (hn : n ≤ 9223372036854775807) : sh_law_StakeDelegates s d v n = some true := by
  have hw : (delegateS s d v n).1.Waits = s.Waits := by
    unfold delegateS
    repeat' split
    all_goals rfl
  have e1 : sh_ref_SameStake (delegateS s d v n).1 (delegateS s d v n).1 = some true := pl_sameS (by rw [hw]; omega)
  have e2 : sh_ref_SameStake s s = some true := pl_sameS (by omega)
  have e3 : sh_ref_SameStake newS newS = some true := pl_sameS (by decide)
  rw [sh_law_StakeDelegates, T_law_StakeDelegates, Tr.run_bind (pl_copyS h), Tr.run_bind (pl_Delegate hn), Tr.run_bind (pl_refDelegate hn)]
  simp only [e1, e2, e3, pl_stakeGood, pl_refstakeGood, pl_stakeNew, pl_refstakeNew, pl_lawstakes, Option.isSome_some, Option.getD_some]
  repeat rw [Tr.run_guard (by simp)]
  rw [Tr.run_leaf]
  simp

theorem pl_StakeUndelegates {s : Stake} {d v n : Int} {w : Wait} (h : s.Waits.length * 64 ≤ 140737488351232) (hn : n ≤ 9223372036854775807) : sh_law_StakeUndelegates s d v n w = some true := by
  have hw : (undelegateS s d v n w).1.Waits.length ≤ s.Waits.length + 1 := by
    unfold undelegateS
    repeat' split
    all_goals simp [subS]
  have e1 : sh_ref_SameStake (undelegateS s d v n w).1 (undelegateS s d v n w).1 = some true := pl_sameS (by omega)
  have e2 : sh_ref_SameStake s s = some true := pl_sameS (by omega)
  rw [sh_law_StakeUndelegates, T_law_StakeUndelegates, Tr.run_bind (pl_copyS h), Tr.run_bind (pl_Undelegate hn), Tr.run_bind (pl_refUndelegate hn)]
  simp only [e1, e2, pl_lawstakes, Option.isSome_some, Option.getD_some]
  repeat rw [Tr.run_guard (by simp)]
  rw [Tr.run_leaf]
  simp

theorem payS_len (s : Stake) (time : Int) : (payS s time).1.Waits.length ≤ s.Waits.length ∧ (payS s time).2.1.length ≤ s.Waits.length := by
  unfold payS
  by_cases hg : GoodS s
  · rw [if_neg (by simpa using hg)]
    have := payI_end hg time
    exact ⟨this.2.2.1, this.2.2.2.1⟩
  · rw [if_pos hg]; simp

theorem pl_StakePays {s : Stake} {c k time : Int} (h : s.Waits.length * 64 ≤ 140737488351232) : sh_law_StakePays s c k time = some true := by
  have hw := payS_len s time
  have e1 : sh_ref_SameStake (payS s time).1 (payS s time).1 = some true := pl_sameS (by omega)
  have e2 : sh_ref_SameNumbers (payS s time).2.1 (payS s time).2.1 = some true := pl_sameN (by omega)
  have e3 : sh_ref_SameStake (releaseS s c k) (releaseS s c k) = some true := pl_sameS (by unfold releaseS; rw [List.length_map]; omega)
  rw [sh_law_StakePays, T_law_StakePays, Tr.run_bind (pl_copyS h), Tr.run_bind pl_Pay, Tr.run_bind pl_PayAll]
  simp only [e1, e2, pl_copyS h, pl_Release h, pl_refRelease h, e3, pl_lawstakes, Option.isSome_some, Option.getD_some]
  repeat rw [Tr.run_guard (by simp)]
  rw [Tr.run_leaf]
  simp

theorem pl_StakeSlashes {s : Stake} {v k f : Int} (h : s.Waits.length * 64 ≤ 140737488351232) : sh_law_StakeSlashes s v k f = some true := by
  have hw : (slashS s v k f).1.Waits.length = s.Waits.length := by
    unfold slashS
    repeat' split
    · rfl
    · rfl
    · exact List.length_map ..
  have e1 : sh_ref_SameStake (slashS s v k f).1 (slashS s v k f).1 = some true := pl_sameS (by omega)
  have e2 : sh_ref_SameStake s s = some true := pl_sameS (by omega)
  rw [sh_law_StakeSlashes, T_law_StakeSlashes, Tr.run_bind (pl_copyS h), Tr.run_bind pl_Slash, Tr.run_bind pl_refSlash]
  simp only [e1, e2, pl_lawstakes, Option.isSome_some, Option.getD_some]
  repeat rw [Tr.run_guard (by simp)]
  rw [Tr.run_leaf]
  simp

theorem judgeS_waits (s : Stake) (v k : Int) : (judgeS s v k).1.Waits = s.Waits := by
  unfold judgeS
  repeat' split
  all_goals rfl

theorem pl_StakeJudges {s : Stake} {v : Int} (h : s.Waits.length * 64 ≤ 140737488351232) : sh_law_StakeJudges s v = some true := by
  have e : ∀ k, sh_ref_SameStake (judgeS s v k).1 (judgeS s v k).1 = some true := fun k => pl_sameS (by rw [judgeS_waits]; omega)
  rw [sh_law_StakeJudges, T_law_StakeJudges, Tr.run_bind (pl_copyS h), Tr.run_bind pl_Jail, Tr.run_bind pl_Judge]
  simp only [e, pl_lawstakes, Option.isSome_some, Option.getD_some]
  rw [Tr.run_guard (by simp), Tr.run_false (by simp), Tr.run_bind (pl_copyS h), Tr.run_bind pl_Unjail, Tr.run_bind pl_Judge]
  simp only [e, Option.isSome_some, Option.getD_some]
  rw [Tr.run_guard (by simp), Tr.run_false (by simp), Tr.run_bind (pl_copyS h), Tr.run_bind pl_Bury, Tr.run_bind pl_Judge]
  simp only [e, Option.isSome_some, Option.getD_some]
  repeat rw [Tr.run_guard (by simp)]
  rw [Tr.run_leaf]
  simp

/-! Sets. -/

def fP (a : List Power) (v : Nat) : Int := findP a v
theorem pl_DiffG {a b : List Power} (ha : a.length ≤ 9223372036854775807) (hb : b.length ≤ 9223372036854775807) : sh_stake_Diff a b = some (diffOf (fP a) (fP b)) := by
  have key : sh_stake_Diff_l1 a b 0 [] = some (diffOf (fP a) (fP b)) := by
    rw [sh_stake_Diff_l1]
    refine loop_fold (F := fun s : (List Power) × (List Power) × Int × (List Power) => (T_stake_Diff_l1 s.1 s.2.1 s.2.2.1 s.2.2.2).run) (List.range 6) 0
      (fun i t => (a, b, (i : Int), t)) (fun i t => t.length ≤ i) (fun t (v : Nat) => t ++ twoP v (fP b v) (fP a v)) (fun t => t) ?_ ?_ [] (by simp)
    · intro t _
      simp only [T_stake_Diff_l1, List.length_range]; rw [Tr.run_false (by rfl), Tr.run_leaf]
    · intro i t hi ht
      rw [List.length_range] at hi
      rw [range_getD hi]
      have h1 := twoP_len i (fP b i) (fP a i)
      refine ⟨?_, by rw [List.length_append]; omega⟩
      simp only [T_stake_Diff_l1]
      rw [Tr.run_true (by simp; omega), Tr.run_bind (pl_find hb), Tr.run_bind (pl_find ha)]
      unfold fP twoP
      by_cases hp : findP b i ≠ findP a i
      · rw [if_pos hp, Tr.run_true (by simpa using hp), Tr.run_guard (by simp only [sl_len_powers, List.length_singleton]; omega), Tr.run_leaf, i64_nat (by omega)]
      · rw [if_neg hp, Tr.run_false (by simpa using hp), Tr.run_leaf, i64_nat (by omega), List.append_nil]
  rw [sh_stake_Diff, T_stake_Diff, Tr.run_bind key, Tr.run_leaf]

theorem pl_refDiff {a b : List Power} (ha : a.length ≤ 9223372036854775807) (hb : b.length ≤ 9223372036854775807) : sh_ref_Diff a b = some (diffOf (fP a) (fP b)) := by
  have key : sh_ref_Diff_l1 0 (rowA a) (rowA b) [] = some (diffOf (fP a) (fP b)) := by
    rw [sh_ref_Diff_l1]
    refine loop_fold (F := fun s : Int × (A6 Int) × (A6 Int) × (List Power) => (T_ref_Diff_l1 s.1 s.2.1 s.2.2.1 s.2.2.2).run) (List.range 6) 0
      (fun i t => ((i : Int), rowA a, rowA b, t)) (fun i t => t.length ≤ i) (fun t (v : Nat) => t ++ twoP v (fP b v) (fP a v)) (fun t => t) ?_ ?_ [] (by simp)
    · intro t _
      simp only [T_ref_Diff_l1, List.length_range]; rw [Tr.run_false (by rfl), Tr.run_leaf]
    · intro i t hi ht
      rw [List.length_range] at hi
      rw [range_getD hi]
      have h1 := twoP_len i (fP b i) (fP a i)
      refine ⟨?_, by rw [List.length_append]; omega⟩
      have ea : (rowA a).get (i : Int) = fP a i := A6_get (fP a) hi
      have eb : (rowA b).get (i : Int) = fP b i := A6_get (fP b) hi
      simp only [T_ref_Diff_l1]
      rw [ea, eb, Tr.run_true (by simp; omega), Tr.run_guard (by omega), Tr.run_guard (by omega)]
      unfold twoP
      by_cases hp : fP b i ≠ fP a i
      · rw [if_pos hp, Tr.run_true (by simpa using Ne.symm hp), Tr.run_guard (by omega), Tr.run_guard (by simp only [sl_len_powers, List.length_singleton]; omega), Tr.run_leaf, i64_nat (by omega)]
      · rw [if_neg hp, Tr.run_false (by simp at hp; simp [hp]), Tr.run_leaf, i64_nat (by omega), List.append_nil]
  rw [sh_ref_Diff, T_ref_Diff, Tr.run_bind (pl_row ha), Tr.run_bind (pl_row hb), Tr.run_bind key, Tr.run_leaf]

def allP (l : List Power) : Int := l.foldl (fun t p => IntKind.i64.wrap (t + p.N)) 0
theorem pl_All {l : List Power} (hl : l.length ≤ 9223372036854775807) : sh_stake_All l = some (allP l) := by
  have key : sh_stake_All_l1 0 l l.length 0 = some (allP l) := by
    rw [sh_stake_All_l1]
    refine loop_fold (F := fun s : Int × (List Power) × Int × Int => (T_stake_All_l1 s.1 s.2.1 s.2.2.1 s.2.2.2).run) l default (fun i t => (t, l, (l.length : Int), (i : Int))) (fun _ _ => True) (fun t p => IntKind.i64.wrap (t + p.N)) (fun t => t) ?_ ?_ 0 trivial
    · intro t _
      simp only [T_stake_All_l1]; rw [Tr.run_false (by simp), Tr.run_leaf]
    · intro i t hi _
      refine ⟨?_, trivial⟩
      simp only [T_stake_All_l1]
      rw [Int.toNat_natCast, Tr.run_true (by simpa using hi), Tr.run_guard ⟨by omega, by rw [sl_len_powers]; omega⟩, Tr.run_leaf, i64_nat (by omega)]
  rw [sh_stake_All, T_stake_All, Tr.run_bind key, Tr.run_leaf]
theorem pl_AllOf {l : List Power} (hl : l.length ≤ 9223372036854775807) : sh_ref_AllOf l = some (allP l) := by
  have key : sh_ref_AllOf_l1 0 l l.length 0 = some (allP l) := by
    rw [sh_ref_AllOf_l1]
    refine loop_fold (F := fun s : Int × (List Power) × Int × Int => (T_ref_AllOf_l1 s.1 s.2.1 s.2.2.1 s.2.2.2).run) l default (fun i t => (t, l, (l.length : Int), (i : Int))) (fun _ _ => True) (fun t p => IntKind.i64.wrap (t + p.N)) (fun t => t) ?_ ?_ 0 trivial
    · intro t _
      simp only [T_ref_AllOf_l1]; rw [Tr.run_false (by simp), Tr.run_leaf]
    · intro i t hi _
      refine ⟨?_, trivial⟩
      simp only [T_ref_AllOf_l1]
      rw [Int.toNat_natCast, Tr.run_true (by simpa using hi), Tr.run_guard ⟨by omega, by rw [sl_len_powers]; omega⟩, Tr.run_leaf, i64_nat (by omega)]
  rw [sh_ref_AllOf, T_ref_AllOf, Tr.run_bind key, Tr.run_leaf]

theorem pl_lawpowers {l : List Power} (h : l.length * 16 ≤ 140737488351232) : sh_law_powers l = some l := by
  rw [sh_law_powers, T_law_powers, Tr.run_guard (by rw [sl_len_powers]; omega), Tr.run_leaf]

theorem pl_StakeSets {s : Stake} {a b : List Power} (h : s.Waits.length * 64 ≤ 140737488351232) (ha : a.length * 16 ≤ 140737488351232) (hb : b.length * 16 ≤ 140737488351232) : sh_law_StakeSets s a b = some true := by
  have e1 : GoodS s → sh_ref_SamePowers (setS s) (setS s) = some true := fun _ => pl_refsameS1 (by have := setOf_len (topF (nvF s)); unfold setS; omega)
  have e2 : sh_ref_SamePowers (diffOf (fP a) (fP b)) (diffOf (fP a) (fP b)) = some true := pl_refsameS1 (by have := diffOf_len (fP a) (fP b); omega)
  have e3 : sh_ref_SamePowers (applyP a b) (applyP a b) = some true := pl_refsameS1 (by have : (applyP a b).length ≤ 6 := setOf_len _; omega)
  rw [sh_law_StakeSets, T_law_StakeSets]
  simp only [pl_refstakeGood, pl_copyS h, pl_lawpowers ha, pl_lawpowers hb, pl_Apply (a := a) (d := b) (by omega) (by omega), pl_refApply (a := a) (d := b) (by omega) (by omega), e3, pl_All (l := a) (by omega), pl_AllOf (l := a) (by omega), pl_lawstakes, Option.isSome_some, Option.getD_some]
  by_cases hg : GoodS s
  · simp only [pl_Set hg, pl_refSet hg, e1 hg, Option.isSome_some, Option.getD_some]
    repeat rw [Tr.run_guard (by simp [hg])]
    rw [Tr.run_false (by simp [hg])]
    rw [Tr.run_bind rfl, Tr.run_bind rfl, Tr.run_bind (pl_DiffG (by omega) (by omega)), Tr.run_bind (pl_refDiff (by omega) (by omega)), Tr.run_bind e2]
    repeat rw [Tr.run_guard (by simp)]
    rw [Tr.run_leaf]
    simp
  · repeat rw [Tr.run_guard (by simp [hg])]
    rw [Tr.run_false (by simp [hg])]
    rw [Tr.run_bind rfl, Tr.run_bind rfl, Tr.run_bind (pl_DiffG (by omega) (by omega)), Tr.run_bind (pl_refDiff (by omega) (by omega)), Tr.run_bind e2]
    repeat rw [Tr.run_guard (by simp)]
    rw [Tr.run_leaf]
    simp

end Go.Proofs.Ytbpehnghffljiaa.Ab
