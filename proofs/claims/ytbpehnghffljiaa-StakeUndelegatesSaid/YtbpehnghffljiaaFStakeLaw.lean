/-
  The functions, each by its tree.
-/
import Derived.Test.YtbpehnghffljiaaFacts
import Derived.Test.YtbpehnghffljiaaAbStructs
import Derived.Test.YtbpehnghffljiaaAbFun
import Derived.Test.YtbpehnghffljiaaFRatio
import Derived.Test.YtbpehnghffljiaaFBank
import Derived.Test.YtbpehnghffljiaaFStakeA
import Derived.Test.YtbpehnghffljiaaFStakeB
import Derived.Test.YtbpehnghffljiaaFRefA
import Derived.Test.YtbpehnghffljiaaFRefB
namespace Go.Proofs.Ytbpehnghffljiaa.Ab
open Go Go.RowKit
set_option maxRecDepth 100000
set_option linter.unusedVariables false
set_option linter.unusedSimpArgs false
noncomputable section

noncomputable def zc78 : Code := Try.f23.body.getD .skip
def zv78 : List (List Nat) := [[], [1, 2], [1, 2, 3], [0]]
noncomputable def zy78 : EnvT := ⟨Try.prog, lookT [(21, F_stake_New), (16, F_stake_Delegate), (25, F_stake_Set), (19, F_stake_Good)]⟩
theorem zh78 : (zy78).Ok := lookT_ok ⟨ok_stake_New, ok_stake_Delegate, ok_stake_Set, ok_stake_Good, trivial⟩
def za78 : Ann := ⟨[], [], [], zv78, []⟩
def T_law_stakes  : Tr (Bool) :=
  (.bind (sh_stake_New) fun v1 =>
  (.bind (sh_stake_Delegate v1 0 1 250) fun v2 =>
  (.bind (sh_stake_Set v2.1) fun v3 =>
  (.guard (((v2.2 == 0) = true → ((sh_stake_Good v2.1).isSome = true) ∧ True))
  (.guard (((((v2.2 == 0) && ((sh_stake_Good v2.1).getD default)) && (((v3.length : Nat) : Int) == 1)) = true → ((0 : Int) ≤ 0 ∧ 0 < ((Sl.len (.powers v3) : Nat) : Int)) ∧ True))
  (.leaf ((((v2.2 == 0) && ((sh_stake_Good v2.1).getD default)) && (((v3.length : Nat) : Int) == 1)) && ((((v3.getD 0 default).V) == 1) && ((((v3.getD 0 default).N) == 2) && true)))))))))
def sh_law_stakes  : Option (Bool) := (T_law_stakes ).run
def zr78 : LQ (Unit) := LQ.nil
def qr_law_stakes : LQ (Bool) := (Par.q boolP)
def F_law_stakes : SpecT := specF 0 zr78 0 [] (fun s => T_law_stakes ) default qr_law_stakes 1 []
theorem ok_law_stakes : SpecOk Try.prog 23 (F_law_stakes).spec :=
  specF_ok (A := za78) zh78 Facts.mix Try.func23 (c := zc78) (by kernel_rfl) (Lc := 0) trivial zr78 0 3 [] (fun s => T_law_stakes ) default qr_law_stakes 1 [] [] (by decide) (by kernel_rfl) (by rfl) (by decide) (by decide) (by rfl)
    (by rintro _; kernel_rfl)

noncomputable def zc79 : Code := Try.f24.body.getD .skip
def zv79 : List (List Nat) := [[], [1, 2], [1, 2, 3], [0]]
noncomputable def zy79 : EnvT := ⟨Try.prog, lookT [(21, F_stake_New), (16, F_stake_Delegate), (25, F_stake_Set), (19, F_stake_Good)]⟩
theorem zh79 : (zy79).Ok := lookT_ok ⟨ok_stake_New, ok_stake_Delegate, ok_stake_Set, ok_stake_Good, trivial⟩
def za79 : Ann := ⟨[], [], [], zv79, []⟩
def T_keep_stakes  : Tr (Bool) :=
  (.bind (sh_stake_New) fun v1 =>
  (.bind (sh_stake_Delegate v1 0 1 250) fun v2 =>
  (.bind (sh_stake_Set v2.1) fun v3 =>
  (.guard (((v2.2 == 0) = true → ((sh_stake_Good v2.1).isSome = true) ∧ True))
  (.guard (((((v2.2 == 0) && ((sh_stake_Good v2.1).getD default)) && (((v3.length : Nat) : Int) == 1)) = true → ((0 : Int) ≤ 0 ∧ 0 < ((Sl.len (.powers v3) : Nat) : Int)) ∧ True))
  (.leaf ((((v2.2 == 0) && ((sh_stake_Good v2.1).getD default)) && (((v3.length : Nat) : Int) == 1)) && ((((v3.getD 0 default).V) == 1) && ((((v3.getD 0 default).N) == 2) && true)))))))))
def sh_keep_stakes  : Option (Bool) := (T_keep_stakes ).run
def zr79 : LQ (Unit) := LQ.nil
def qr_keep_stakes : LQ (Bool) := (Par.q boolP)
def F_keep_stakes : SpecT := specF 0 zr79 0 [] (fun s => T_keep_stakes ) default qr_keep_stakes 1 []
theorem ok_keep_stakes : SpecOk Try.prog 24 (F_keep_stakes).spec :=
  specF_ok (A := za79) zh79 Facts.mix Try.func24 (c := zc79) (by kernel_rfl) (Lc := 0) trivial zr79 0 3 [] (fun s => T_keep_stakes ) default qr_keep_stakes 1 [] [] (by decide) (by kernel_rfl) (by rfl) (by decide) (by decide) (by rfl)
    (by rintro _; kernel_rfl)

noncomputable def zc80 : Code := Try.f3.body.getD .skip
def zv80 : List (List Nat) := [[1, 2, 3, 4], [1, 2, 3, 4, 9], [1, 2, 3, 4, 9, 10, 11], [4, 9, 10, 11, 12, 13], [8]]
noncomputable def zy80 : EnvT := ⟨Try.prog, lookT [(15, F_ref_CopyStake), (16, F_stake_Delegate), (17, F_ref_Delegate), (18, F_ref_SameStake), (19, F_stake_Good), (20, F_ref_GoodStake), (21, F_stake_New), (22, F_ref_NewStake), (23, F_law_stakes)]⟩
theorem zh80 : (zy80).Ok := lookT_ok ⟨ok_ref_CopyStake, ok_stake_Delegate, ok_ref_Delegate, ok_ref_SameStake, ok_stake_Good, ok_ref_GoodStake, ok_stake_New, ok_ref_NewStake, ok_law_stakes, trivial⟩
def za80 : Ann := ⟨[], [], [], zv80, []⟩
def T_law_StakeDelegates (a0 : Stake) (a1 : Int) (a2 : Int) (a3 : Int) : Tr (Bool) :=
  (.bind (sh_ref_CopyStake a0) fun v1 =>
  (.bind (sh_stake_Delegate v1 a1 a2 a3) fun v2 =>
  (.bind (sh_ref_Delegate a0 a1 a2 a3) fun v3 =>
  (.guard (((v2.2 == v3.2) = true → ((sh_ref_SameStake v2.1 v3.1).isSome = true) ∧ True))
  (.guard ((((v2.2 == v3.2) && ((sh_ref_SameStake v2.1 v3.1).getD default)) = true → ((sh_ref_SameStake v1 a0).isSome = true) ∧ True))
  (.guard (((((v2.2 == v3.2) && ((sh_ref_SameStake v2.1 v3.1).getD default)) && ((sh_ref_SameStake v1 a0).getD default)) = true → ((sh_stake_Good v1).isSome = true) ∧ True))
  (.guard (((((v2.2 == v3.2) && ((sh_ref_SameStake v2.1 v3.1).getD default)) && ((sh_ref_SameStake v1 a0).getD default)) = true → ((sh_ref_GoodStake a0).isSome = true) ∧ True))
  (.guard ((((((v2.2 == v3.2) && ((sh_ref_SameStake v2.1 v3.1).getD default)) && ((sh_ref_SameStake v1 a0).getD default)) && (((sh_stake_Good v1).getD default) == ((sh_ref_GoodStake a0).getD default))) = true → ((sh_stake_New).isSome = true) ∧ True))
  (.guard ((((((v2.2 == v3.2) && ((sh_ref_SameStake v2.1 v3.1).getD default)) && ((sh_ref_SameStake v1 a0).getD default)) && (((sh_stake_Good v1).getD default) == ((sh_ref_GoodStake a0).getD default))) = true → ((sh_ref_NewStake).isSome = true) ∧ True))
  (.guard ((((((v2.2 == v3.2) && ((sh_ref_SameStake v2.1 v3.1).getD default)) && ((sh_ref_SameStake v1 a0).getD default)) && (((sh_stake_Good v1).getD default) == ((sh_ref_GoodStake a0).getD default))) = true → ((sh_ref_SameStake ((sh_stake_New).getD default) ((sh_ref_NewStake).getD default)).isSome = true) ∧ True))
  (.guard (((((((v2.2 == v3.2) && ((sh_ref_SameStake v2.1 v3.1).getD default)) && ((sh_ref_SameStake v1 a0).getD default)) && (((sh_stake_Good v1).getD default) == ((sh_ref_GoodStake a0).getD default))) && ((sh_ref_SameStake ((sh_stake_New).getD default) ((sh_ref_NewStake).getD default)).getD default)) = true → ((sh_law_stakes).isSome = true) ∧ True))
  (.leaf ((((((v2.2 == v3.2) && ((sh_ref_SameStake v2.1 v3.1).getD default)) && ((sh_ref_SameStake v1 a0).getD default)) && (((sh_stake_Good v1).getD default) == ((sh_ref_GoodStake a0).getD default))) && ((sh_ref_SameStake ((sh_stake_New).getD default) ((sh_ref_NewStake).getD default)).getD default)) && ((sh_law_stakes).getD default))))))))))))))
def sh_law_StakeDelegates (a0 : Stake) (a1 : Int) (a2 : Int) (a3 : Int) : Option (Bool) := (T_law_StakeDelegates a0 a1 a2 a3).run
def zr80 : LQ (Stake × Int × Int × Int) := (LQ.seq (Par.q (Par.ofLP stakeL)) (LQ.seq (Par.q intP) (LQ.seq (Par.q intP) (Par.q intP))))
def qr_law_StakeDelegates : LQ (Bool) := (Par.q boolP)
def F_law_StakeDelegates : SpecT := specF 0 zr80 4 [] (fun s => T_law_StakeDelegates s.1 s.2.1 s.2.2.1 s.2.2.2) default qr_law_StakeDelegates 1 []
theorem ok_law_StakeDelegates : SpecOk Try.prog 3 (F_law_StakeDelegates).spec :=
  specF_ok (A := za80) zh80 Facts.mix Try.func3 (c := zc80) (by kernel_rfl) (Lc := 0) trivial zr80 4 6 [] (fun s => T_law_StakeDelegates s.1 s.2.1 s.2.2.1 s.2.2.2) default qr_law_StakeDelegates 1 [] [] (by decide) (by kernel_rfl) (by rfl) (by decide) (by decide) (by rfl)
    (by rintro ⟨a0, a1, a2, a3⟩; kernel_rfl)

noncomputable def zc81 : Code := Try.f6.body.getD .skip
def zv81 : List (List Nat) := [[1, 2], [1, 2, 5, 6], [1, 2, 5, 6, 7, 8], [1, 2, 5, 7, 30], [4], [1, 2, 5, 6, 7], [1, 2, 5, 6, 7, 8], [1, 2, 5, 7, 52], [4], [1, 2, 5, 6, 7], [5, 6, 7, 8], [4]]
noncomputable def zy81 : EnvT := ⟨Try.prog, lookT [(15, F_ref_CopyStake), (27, F_stake_Jail), (28, F_ref_Judge), (18, F_ref_SameStake), (29, F_stake_Unjail), (30, F_stake_Bury), (23, F_law_stakes)]⟩
theorem zh81 : (zy81).Ok := lookT_ok ⟨ok_ref_CopyStake, ok_stake_Jail, ok_ref_Judge, ok_ref_SameStake, ok_stake_Unjail, ok_stake_Bury, ok_law_stakes, trivial⟩
def za81 : Ann := ⟨[], [], [], zv81, []⟩
def T_law_StakeJudges (a0 : Stake) (a1 : Int) : Tr (Bool) :=
  (.bind (sh_ref_CopyStake a0) fun v1 =>
  (.bind (sh_stake_Jail v1 a1) fun v2 =>
  (.bind (sh_ref_Judge a0 a1 0) fun v3 =>
  (.guard (((v2.2 != v3.2) = false → ((sh_ref_SameStake v2.1 v3.1).isSome = true) ∧ True))
  (.ite ((v2.2 != v3.2) || (!((sh_ref_SameStake v2.1 v3.1).getD default)))
    (.leaf false)
    (.bind (sh_ref_CopyStake a0) fun v4 =>
    (.bind (sh_stake_Unjail v4 a1) fun v5 =>
    (.bind (sh_ref_Judge a0 a1 1) fun v6 =>
    (.guard (((v5.2 != v6.2) = false → ((sh_ref_SameStake v5.1 v6.1).isSome = true) ∧ True))
    (.ite ((v5.2 != v6.2) || (!((sh_ref_SameStake v5.1 v6.1).getD default)))
      (.leaf false)
      (.bind (sh_ref_CopyStake a0) fun v7 =>
      (.bind (sh_stake_Bury v7 a1) fun v8 =>
      (.bind (sh_ref_Judge a0 a1 2) fun v9 =>
      (.guard (((v8.2 == v9.2) = true → ((sh_ref_SameStake v8.1 v9.1).isSome = true) ∧ True))
      (.guard ((((v8.2 == v9.2) && ((sh_ref_SameStake v8.1 v9.1).getD default)) = true → ((sh_law_stakes).isSome = true) ∧ True))
      (.leaf (((v8.2 == v9.2) && ((sh_ref_SameStake v8.1 v9.1).getD default)) && ((sh_law_stakes).getD default))))))))))))))))))
def sh_law_StakeJudges (a0 : Stake) (a1 : Int) : Option (Bool) := (T_law_StakeJudges a0 a1).run
def zr81 : LQ (Stake × Int) := (LQ.seq (Par.q (Par.ofLP stakeL)) (Par.q intP))
def qr_law_StakeJudges : LQ (Bool) := (Par.q boolP)
def F_law_StakeJudges : SpecT := specF 0 zr81 2 [] (fun s => T_law_StakeJudges s.1 s.2) default qr_law_StakeJudges 1 []
theorem ok_law_StakeJudges : SpecOk Try.prog 6 (F_law_StakeJudges).spec :=
  specF_ok (A := za81) zh81 Facts.mix Try.func6 (c := zc81) (by kernel_rfl) (Lc := 0) trivial zr81 2 5 [] (fun s => T_law_StakeJudges s.1 s.2) default qr_law_StakeJudges 1 [] [] (by decide) (by kernel_rfl) (by rfl) (by decide) (by decide) (by rfl)
    (by rintro ⟨a0, a1⟩; kernel_rfl)

noncomputable def zc82 : Code := Try.f7.body.getD .skip
def zv82 : List (List Nat) := [[1, 2, 3], [1, 2, 17], [6], [6]]
noncomputable def zy82 : EnvT := ⟨Try.prog, lookT [(20, F_ref_GoodStake), (15, F_ref_CopyStake), (25, F_stake_Set), (32, F_ref_Set), (31, F_ref_SamePowers), (34, F_law_powers), (33, F_stake_Diff), (35, F_ref_Diff), (36, F_stake_Apply), (37, F_ref_Apply), (38, F_stake_All), (39, F_ref_AllOf), (23, F_law_stakes)]⟩
theorem zh82 : (zy82).Ok := lookT_ok ⟨ok_ref_GoodStake, ok_ref_CopyStake, ok_stake_Set, ok_ref_Set, ok_ref_SamePowers, ok_law_powers, ok_stake_Diff, ok_ref_Diff, ok_stake_Apply, ok_ref_Apply, ok_stake_All, ok_ref_AllOf, ok_law_stakes, trivial⟩
def za82 : Ann := ⟨[], [], [], zv82, []⟩
def T_law_StakeSets (a0 : Stake) (a1 : (List Power)) (a2 : (List Power)) : Tr (Bool) :=
  (.guard ((sh_ref_GoodStake a0).isSome = true)
  (.guard ((((sh_ref_GoodStake a0).getD default) = true → ((sh_ref_CopyStake a0).isSome = true) ∧ True))
  (.guard ((((sh_ref_GoodStake a0).getD default) = true → ((sh_stake_Set ((sh_ref_CopyStake a0).getD default)).isSome = true) ∧ True))
  (.guard ((((sh_ref_GoodStake a0).getD default) = true → ((sh_ref_Set a0).isSome = true) ∧ True))
  (.guard ((((sh_ref_GoodStake a0).getD default) = true → ((sh_ref_SamePowers ((sh_stake_Set ((sh_ref_CopyStake a0).getD default)).getD default) ((sh_ref_Set a0).getD default)).isSome = true) ∧ True))
  (.ite (((sh_ref_GoodStake a0).getD default) && (!((sh_ref_SamePowers ((sh_stake_Set ((sh_ref_CopyStake a0).getD default)).getD default) ((sh_ref_Set a0).getD default)).getD default)))
    (.leaf false)
    (.bind (sh_law_powers a1) fun v1 =>
    (.bind (sh_law_powers a2) fun v2 =>
    (.bind (sh_stake_Diff v1 v2) fun v3 =>
    (.bind (sh_ref_Diff a1 a2) fun v4 =>
    (.bind (sh_ref_SamePowers v3 v4) fun v5 =>
    (.guard ((v5 = true → ((sh_law_powers a1).isSome = true) ∧ True))
    (.guard ((v5 = true → ((sh_law_powers a2).isSome = true) ∧ True))
    (.guard ((v5 = true → ((sh_stake_Apply ((sh_law_powers a1).getD default) ((sh_law_powers a2).getD default)).isSome = true) ∧ True))
    (.guard ((v5 = true → ((sh_ref_Apply a1 a2).isSome = true) ∧ True))
    (.guard ((v5 = true → ((sh_ref_SamePowers ((sh_stake_Apply ((sh_law_powers a1).getD default) ((sh_law_powers a2).getD default)).getD default) ((sh_ref_Apply a1 a2).getD default)).isSome = true) ∧ True))
    (.guard (((v5 && ((sh_ref_SamePowers ((sh_stake_Apply ((sh_law_powers a1).getD default) ((sh_law_powers a2).getD default)).getD default) ((sh_ref_Apply a1 a2).getD default)).getD default)) = true → ((sh_law_powers a1).isSome = true) ∧ True))
    (.guard (((v5 && ((sh_ref_SamePowers ((sh_stake_Apply ((sh_law_powers a1).getD default) ((sh_law_powers a2).getD default)).getD default) ((sh_ref_Apply a1 a2).getD default)).getD default)) = true → ((sh_stake_All ((sh_law_powers a1).getD default)).isSome = true) ∧ True))
    (.guard (((v5 && ((sh_ref_SamePowers ((sh_stake_Apply ((sh_law_powers a1).getD default) ((sh_law_powers a2).getD default)).getD default) ((sh_ref_Apply a1 a2).getD default)).getD default)) = true → ((sh_ref_AllOf a1).isSome = true) ∧ True))
    (.guard ((((v5 && ((sh_ref_SamePowers ((sh_stake_Apply ((sh_law_powers a1).getD default) ((sh_law_powers a2).getD default)).getD default) ((sh_ref_Apply a1 a2).getD default)).getD default)) && (((sh_stake_All ((sh_law_powers a1).getD default)).getD default) == ((sh_ref_AllOf a1).getD default))) = true → ((sh_law_stakes).isSome = true) ∧ True))
    (.leaf (((v5 && ((sh_ref_SamePowers ((sh_stake_Apply ((sh_law_powers a1).getD default) ((sh_law_powers a2).getD default)).getD default) ((sh_ref_Apply a1 a2).getD default)).getD default)) && (((sh_stake_All ((sh_law_powers a1).getD default)).getD default) == ((sh_ref_AllOf a1).getD default))) && ((sh_law_stakes).getD default)))))))))))))))))))))))
def sh_law_StakeSets (a0 : Stake) (a1 : (List Power)) (a2 : (List Power)) : Option (Bool) := (T_law_StakeSets a0 a1 a2).run
def zr82 : LQ (Stake × (List Power) × (List Power)) := (LQ.seq (Par.q (Par.ofLP stakeL)) (LQ.seq (Par.q powersP) (Par.q powersP)))
def qr_law_StakeSets : LQ (Bool) := (Par.q boolP)
def F_law_StakeSets : SpecT := specF 0 zr82 3 [] (fun s => T_law_StakeSets s.1 s.2.1 s.2.2) default qr_law_StakeSets 1 []
theorem ok_law_StakeSets : SpecOk Try.prog 7 (F_law_StakeSets).spec :=
  specF_ok (A := za82) zh82 Facts.mix Try.func7 (c := zc82) (by kernel_rfl) (Lc := 0) trivial zr82 3 3 [] (fun s => T_law_StakeSets s.1 s.2.1 s.2.2) default qr_law_StakeSets 1 [] [] (by decide) (by kernel_rfl) (by rfl) (by decide) (by decide) (by rfl)
    (by rintro ⟨a0, a1, a2⟩; kernel_rfl)

noncomputable def zc83 : Code := Try.f9.body.getD .skip
def zv83 : List (List Nat) := [[1, 2, 3, 5, 9], [1, 2, 3, 5, 9, 11], [1, 2, 3, 5, 9, 11, 12, 13], [5, 11, 12, 13, 14, 15], [10]]
noncomputable def zy83 : EnvT := ⟨Try.prog, lookT [(15, F_ref_CopyStake), (42, F_stake_Undelegate), (43, F_ref_Undelegate), (18, F_ref_SameStake), (23, F_law_stakes)]⟩
theorem zh83 : (zy83).Ok := lookT_ok ⟨ok_ref_CopyStake, ok_stake_Undelegate, ok_ref_Undelegate, ok_ref_SameStake, ok_law_stakes, trivial⟩
def za83 : Ann := ⟨[], [], [], zv83, []⟩
def T_law_StakeUndelegates (a0 : Stake) (a1 : Int) (a2 : Int) (a3 : Int) (a4 : Wait) : Tr (Bool) :=
  (.bind (sh_ref_CopyStake a0) fun v1 =>
  (.bind (sh_stake_Undelegate v1 a1 a2 a3 a4) fun v2 =>
  (.bind (sh_ref_Undelegate a0 a1 a2 a3 a4) fun v3 =>
  (.guard (((v2.2 == v3.2) = true → ((sh_ref_SameStake v2.1 v3.1).isSome = true) ∧ True))
  (.guard ((((v2.2 == v3.2) && ((sh_ref_SameStake v2.1 v3.1).getD default)) = true → ((sh_ref_SameStake v1 a0).isSome = true) ∧ True))
  (.guard (((((v2.2 == v3.2) && ((sh_ref_SameStake v2.1 v3.1).getD default)) && ((sh_ref_SameStake v1 a0).getD default)) = true → ((sh_law_stakes).isSome = true) ∧ True))
  (.leaf ((((v2.2 == v3.2) && ((sh_ref_SameStake v2.1 v3.1).getD default)) && ((sh_ref_SameStake v1 a0).getD default)) && ((sh_law_stakes).getD default)))))))))
def sh_law_StakeUndelegates (a0 : Stake) (a1 : Int) (a2 : Int) (a3 : Int) (a4 : Wait) : Option (Bool) := (T_law_StakeUndelegates a0 a1 a2 a3 a4).run
def zr83 : LQ (Stake × Int × Int × Int × Wait) := (LQ.seq (Par.q (Par.ofLP stakeL)) (LQ.seq (Par.q intP) (LQ.seq (Par.q intP) (LQ.seq (Par.q intP) (Par.q (Par.ofLP waitL))))))
def qr_law_StakeUndelegates : LQ (Bool) := (Par.q boolP)
def F_law_StakeUndelegates : SpecT := specF 0 zr83 5 [] (fun s => T_law_StakeUndelegates s.1 s.2.1 s.2.2.1 s.2.2.2.1 s.2.2.2.2) default qr_law_StakeUndelegates 1 []
theorem ok_law_StakeUndelegates : SpecOk Try.prog 9 (F_law_StakeUndelegates).spec :=
  specF_ok (A := za83) zh83 Facts.mix Try.func9 (c := zc83) (by kernel_rfl) (Lc := 0) trivial zr83 5 7 [] (fun s => T_law_StakeUndelegates s.1 s.2.1 s.2.2.1 s.2.2.2.1 s.2.2.2.2) default qr_law_StakeUndelegates 1 [] [] (by decide) (by kernel_rfl) (by rfl) (by decide) (by decide) (by rfl)
    (by rintro ⟨a0, a1, a2, a3, a4⟩; kernel_rfl)

noncomputable def zc84 : Code := Try.f11.body.getD .skip
def zv84 : List (List Nat) := [[1, 2, 3, 4], [1, 2, 3, 4, 9, 10, 11], [1, 2, 4, 9, 10, 11, 12, 13, 14], [8]]
noncomputable def zy84 : EnvT := ⟨Try.prog, lookT [(15, F_ref_CopyStake), (26, F_stake_Pay), (44, F_ref_PayAll), (45, F_ref_SameNumbers), (18, F_ref_SameStake), (46, F_stake_Release), (47, F_ref_Release), (23, F_law_stakes)]⟩
theorem zh84 : (zy84).Ok := lookT_ok ⟨ok_ref_CopyStake, ok_stake_Pay, ok_ref_PayAll, ok_ref_SameNumbers, ok_ref_SameStake, ok_stake_Release, ok_ref_Release, ok_law_stakes, trivial⟩
def za84 : Ann := ⟨[], [], [], zv84, []⟩
def T_law_StakePays (a0 : Stake) (a1 : Int) (a2 : Int) (a3 : Int) : Tr (Bool) :=
  (.bind (sh_ref_CopyStake a0) fun v1 =>
  (.bind (sh_stake_Pay v1 a3) fun v2 =>
  (.bind (sh_ref_PayAll a0 a3) fun v3 =>
  (.guard (((v2.2.2 == v3.2.2) = true → ((sh_ref_SameNumbers v2.2.1 v3.2.1).isSome = true) ∧ True))
  (.guard ((((v2.2.2 == v3.2.2) && ((sh_ref_SameNumbers v2.2.1 v3.2.1).getD default)) = true → ((sh_ref_SameStake v2.1 v3.1).isSome = true) ∧ True))
  (.guard (((((v2.2.2 == v3.2.2) && ((sh_ref_SameNumbers v2.2.1 v3.2.1).getD default)) && ((sh_ref_SameStake v2.1 v3.1).getD default)) = true → ((sh_ref_CopyStake a0).isSome = true) ∧ True))
  (.guard (((((v2.2.2 == v3.2.2) && ((sh_ref_SameNumbers v2.2.1 v3.2.1).getD default)) && ((sh_ref_SameStake v2.1 v3.1).getD default)) = true → ((sh_stake_Release ((sh_ref_CopyStake a0).getD default) a1 a2).isSome = true) ∧ True))
  (.guard (((((v2.2.2 == v3.2.2) && ((sh_ref_SameNumbers v2.2.1 v3.2.1).getD default)) && ((sh_ref_SameStake v2.1 v3.1).getD default)) = true → ((sh_ref_Release a0 a1 a2).isSome = true) ∧ True))
  (.guard (((((v2.2.2 == v3.2.2) && ((sh_ref_SameNumbers v2.2.1 v3.2.1).getD default)) && ((sh_ref_SameStake v2.1 v3.1).getD default)) = true → ((sh_ref_SameStake ((sh_stake_Release ((sh_ref_CopyStake a0).getD default) a1 a2).getD default) ((sh_ref_Release a0 a1 a2).getD default)).isSome = true) ∧ True))
  (.guard ((((((v2.2.2 == v3.2.2) && ((sh_ref_SameNumbers v2.2.1 v3.2.1).getD default)) && ((sh_ref_SameStake v2.1 v3.1).getD default)) && ((sh_ref_SameStake ((sh_stake_Release ((sh_ref_CopyStake a0).getD default) a1 a2).getD default) ((sh_ref_Release a0 a1 a2).getD default)).getD default)) = true → ((sh_law_stakes).isSome = true) ∧ True))
  (.leaf (((((v2.2.2 == v3.2.2) && ((sh_ref_SameNumbers v2.2.1 v3.2.1).getD default)) && ((sh_ref_SameStake v2.1 v3.1).getD default)) && ((sh_ref_SameStake ((sh_stake_Release ((sh_ref_CopyStake a0).getD default) a1 a2).getD default) ((sh_ref_Release a0 a1 a2).getD default)).getD default)) && ((sh_law_stakes).getD default)))))))))))))
def sh_law_StakePays (a0 : Stake) (a1 : Int) (a2 : Int) (a3 : Int) : Option (Bool) := (T_law_StakePays a0 a1 a2 a3).run
def zr84 : LQ (Stake × Int × Int × Int) := (LQ.seq (Par.q (Par.ofLP stakeL)) (LQ.seq (Par.q intP) (LQ.seq (Par.q intP) (Par.q intP))))
def qr_law_StakePays : LQ (Bool) := (Par.q boolP)
def F_law_StakePays : SpecT := specF 0 zr84 4 [] (fun s => T_law_StakePays s.1 s.2.1 s.2.2.1 s.2.2.2) default qr_law_StakePays 1 []
theorem ok_law_StakePays : SpecOk Try.prog 11 (F_law_StakePays).spec :=
  specF_ok (A := za84) zh84 Facts.mix Try.func11 (c := zc84) (by kernel_rfl) (Lc := 0) trivial zr84 4 5 [] (fun s => T_law_StakePays s.1 s.2.1 s.2.2.1 s.2.2.2) default qr_law_StakePays 1 [] [] (by decide) (by kernel_rfl) (by rfl) (by decide) (by decide) (by rfl)
    (by rintro ⟨a0, a1, a2, a3⟩; kernel_rfl)

noncomputable def zc85 : Code := Try.f12.body.getD .skip
def zv85 : List (List Nat) := [[1, 2, 3, 4], [1, 2, 3, 4, 9], [1, 2, 3, 4, 9, 10, 11, 12], [4, 9, 10, 11, 12, 13, 14, 15], [8]]
noncomputable def zy85 : EnvT := ⟨Try.prog, lookT [(15, F_ref_CopyStake), (48, F_stake_Slash), (49, F_ref_Slash), (18, F_ref_SameStake), (23, F_law_stakes)]⟩
theorem zh85 : (zy85).Ok := lookT_ok ⟨ok_ref_CopyStake, ok_stake_Slash, ok_ref_Slash, ok_ref_SameStake, ok_law_stakes, trivial⟩
def za85 : Ann := ⟨[], [], [], zv85, []⟩
def T_law_StakeSlashes (a0 : Stake) (a1 : Int) (a2 : Int) (a3 : Int) : Tr (Bool) :=
  (.bind (sh_ref_CopyStake a0) fun v1 =>
  (.bind (sh_stake_Slash v1 a1 a2 a3) fun v2 =>
  (.bind (sh_ref_Slash a0 a1 a2 a3) fun v3 =>
  (.guard ((((v2.2.2 == v3.2.2) && (v2.2.1 == v3.2.1)) = true → ((sh_ref_SameStake v2.1 v3.1).isSome = true) ∧ True))
  (.guard (((((v2.2.2 == v3.2.2) && (v2.2.1 == v3.2.1)) && ((sh_ref_SameStake v2.1 v3.1).getD default)) = true → ((sh_ref_SameStake v1 a0).isSome = true) ∧ True))
  (.guard ((((((v2.2.2 == v3.2.2) && (v2.2.1 == v3.2.1)) && ((sh_ref_SameStake v2.1 v3.1).getD default)) && ((sh_ref_SameStake v1 a0).getD default)) = true → ((sh_law_stakes).isSome = true) ∧ True))
  (.leaf (((((v2.2.2 == v3.2.2) && (v2.2.1 == v3.2.1)) && ((sh_ref_SameStake v2.1 v3.1).getD default)) && ((sh_ref_SameStake v1 a0).getD default)) && ((sh_law_stakes).getD default)))))))))
def sh_law_StakeSlashes (a0 : Stake) (a1 : Int) (a2 : Int) (a3 : Int) : Option (Bool) := (T_law_StakeSlashes a0 a1 a2 a3).run
def zr85 : LQ (Stake × Int × Int × Int) := (LQ.seq (Par.q (Par.ofLP stakeL)) (LQ.seq (Par.q intP) (LQ.seq (Par.q intP) (Par.q intP))))
def qr_law_StakeSlashes : LQ (Bool) := (Par.q boolP)
def F_law_StakeSlashes : SpecT := specF 0 zr85 4 [] (fun s => T_law_StakeSlashes s.1 s.2.1 s.2.2.1 s.2.2.2) default qr_law_StakeSlashes 1 []
theorem ok_law_StakeSlashes : SpecOk Try.prog 12 (F_law_StakeSlashes).spec :=
  specF_ok (A := za85) zh85 Facts.mix Try.func12 (c := zc85) (by kernel_rfl) (Lc := 0) trivial zr85 4 6 [] (fun s => T_law_StakeSlashes s.1 s.2.1 s.2.2.1 s.2.2.2) default qr_law_StakeSlashes 1 [] [] (by decide) (by kernel_rfl) (by rfl) (by decide) (by decide) (by rfl)
    (by rintro ⟨a0, a1, a2, a3⟩; kernel_rfl)

noncomputable def zc86 : Code := Try.f50.body.getD .skip
def zv86 : List (List Nat) := [[2, 3, 4], [2, 3, 4, 6], [2, 3, 4, 6, 9], [2, 4, 6], [2, 3, 4, 6, 9, 15], [2, 4, 6], [2, 3, 4, 6, 9, 30], [2, 4, 6], [2, 3, 4, 6, 9, 57], [2, 4, 6], [2, 3, 4, 6, 9, 74], [2, 4, 6], [2, 3, 4, 6, 9, 84], [2, 4, 6], [2, 3, 4, 6, 9, 94], [2, 4, 6], [2, 3, 4, 6, 104], [2, 4, 6], [4, 5]]
noncomputable def zy86 : EnvT := ⟨Try.prog, lookT [(71, F_keep_pick), (16, F_stake_Delegate), (42, F_stake_Undelegate), (48, F_stake_Slash), (27, F_stake_Jail), (29, F_stake_Unjail), (30, F_stake_Bury), (26, F_stake_Pay), (46, F_stake_Release)]⟩
theorem zh86 : (zy86).Ok := lookT_ok ⟨ok_keep_pick, ok_stake_Delegate, ok_stake_Undelegate, ok_stake_Slash, ok_stake_Jail, ok_stake_Unjail, ok_stake_Bury, ok_stake_Pay, ok_stake_Release, trivial⟩
def za86 : Ann := ⟨[], [], [], zv86, []⟩
def T_keep_follow (a0 : Stake) (a1 : Order) : Tr (Stake × Int) :=
  (.bind (sh_keep_pick a1.Kind 8) fun v1 =>
  (.ite (v1 == 0)
    (.guard ((sh_keep_pick a1.D 4).isSome = true)
    (.guard ((sh_keep_pick a1.V 6).isSome = true)
    (.guard ((sh_stake_Delegate a0 ((sh_keep_pick a1.D 4).getD default) ((sh_keep_pick a1.V 6).getD default) a1.N).isSome = true)
    (.leaf ((((sh_stake_Delegate a0 ((sh_keep_pick a1.D 4).getD default) ((sh_keep_pick a1.V 6).getD default) a1.N).getD default).1), ((sh_stake_Delegate a0 ((sh_keep_pick a1.D 4).getD default) ((sh_keep_pick a1.V 6).getD default) a1.N).getD default).2)))))
    (.ite (v1 == 1)
      (.guard ((sh_keep_pick a1.D 4).isSome = true)
      (.guard ((sh_keep_pick a1.V 6).isSome = true)
      (.guard ((sh_keep_pick a1.H 9).isSome = true)
      (.guard ((sh_keep_pick a1.H 50).isSome = true)
      (.guard ((50 : Int) ≠ 0)
      (.guard ((sh_keep_pick (IntKind.i64.wrap (Int.tdiv a1.H 50)) 9).isSome = true)
      (.guard ((sh_stake_Undelegate a0 ((sh_keep_pick a1.D 4).getD default) ((sh_keep_pick a1.V 6).getD default) a1.N (⟨0, 0, 0, 0, ((sh_keep_pick a1.H 9).getD default), ((sh_keep_pick a1.H 50).getD default), ((sh_keep_pick (IntKind.i64.wrap (Int.tdiv a1.H 50)) 9).getD default), 0⟩ : Wait)).isSome = true)
      (.leaf ((((sh_stake_Undelegate a0 ((sh_keep_pick a1.D 4).getD default) ((sh_keep_pick a1.V 6).getD default) a1.N (⟨0, 0, 0, 0, ((sh_keep_pick a1.H 9).getD default), ((sh_keep_pick a1.H 50).getD default), ((sh_keep_pick (IntKind.i64.wrap (Int.tdiv a1.H 50)) 9).getD default), 0⟩ : Wait)).getD default).1), ((sh_stake_Undelegate a0 ((sh_keep_pick a1.D 4).getD default) ((sh_keep_pick a1.V 6).getD default) a1.N (⟨0, 0, 0, 0, ((sh_keep_pick a1.H 9).getD default), ((sh_keep_pick a1.H 50).getD default), ((sh_keep_pick (IntKind.i64.wrap (Int.tdiv a1.H 50)) 9).getD default), 0⟩ : Wait)).getD default).2)))))))))
      (.ite (v1 == 2)
        (.guard ((sh_keep_pick a1.V 6).isSome = true)
        (.guard ((sh_keep_pick a1.H 9).isSome = true)
        (.guard ((sh_keep_pick a1.N 1001).isSome = true)
        (.guard ((sh_stake_Slash a0 ((sh_keep_pick a1.V 6).getD default) ((sh_keep_pick a1.H 9).getD default) ((sh_keep_pick a1.N 1001).getD default)).isSome = true)
        (.leaf ((((sh_stake_Slash a0 ((sh_keep_pick a1.V 6).getD default) ((sh_keep_pick a1.H 9).getD default) ((sh_keep_pick a1.N 1001).getD default)).getD default).1), ((sh_stake_Slash a0 ((sh_keep_pick a1.V 6).getD default) ((sh_keep_pick a1.H 9).getD default) ((sh_keep_pick a1.N 1001).getD default)).getD default).2.2))))))
        (.ite (v1 == 3)
          (.guard ((sh_keep_pick a1.V 6).isSome = true)
          (.guard ((sh_stake_Jail a0 ((sh_keep_pick a1.V 6).getD default)).isSome = true)
          (.leaf ((((sh_stake_Jail a0 ((sh_keep_pick a1.V 6).getD default)).getD default).1), ((sh_stake_Jail a0 ((sh_keep_pick a1.V 6).getD default)).getD default).2))))
          (.ite (v1 == 4)
            (.guard ((sh_keep_pick a1.V 6).isSome = true)
            (.guard ((sh_stake_Unjail a0 ((sh_keep_pick a1.V 6).getD default)).isSome = true)
            (.leaf ((((sh_stake_Unjail a0 ((sh_keep_pick a1.V 6).getD default)).getD default).1), ((sh_stake_Unjail a0 ((sh_keep_pick a1.V 6).getD default)).getD default).2))))
            (.ite (v1 == 5)
              (.guard ((sh_keep_pick a1.V 6).isSome = true)
              (.guard ((sh_stake_Bury a0 ((sh_keep_pick a1.V 6).getD default)).isSome = true)
              (.leaf ((((sh_stake_Bury a0 ((sh_keep_pick a1.V 6).getD default)).getD default).1), ((sh_stake_Bury a0 ((sh_keep_pick a1.V 6).getD default)).getD default).2))))
              (.ite (v1 == 6)
                (.guard ((sh_keep_pick a1.H 60).isSome = true)
                (.guard ((sh_stake_Pay a0 ((sh_keep_pick a1.H 60).getD default)).isSome = true)
                (.leaf ((((sh_stake_Pay a0 ((sh_keep_pick a1.H 60).getD default)).getD default).1), ((sh_stake_Pay a0 ((sh_keep_pick a1.H 60).getD default)).getD default).2.2))))
                (.guard ((sh_keep_pick a1.H 9).isSome = true)
                (.guard ((sh_stake_Release a0 0 ((sh_keep_pick a1.H 9).getD default)).isSome = true)
                (.leaf (((sh_stake_Release a0 0 ((sh_keep_pick a1.H 9).getD default)).getD default), 0))))))))))))
def sh_keep_follow (a0 : Stake) (a1 : Order) : Option (Stake × Int) := (T_keep_follow a0 a1).run
def zr86 : LQ (Stake × Order) := (LQ.seq (Par.q (Par.ofLP stakeL)) (Par.q (Par.ofLP orderL)))
def qr_keep_follow : LQ (Stake × Int) := (LQ.seq (Par.q (Par.ofLP stakeL)) (Par.q intP))
def F_keep_follow : SpecT := specF 0 zr86 2 [] (fun s => T_keep_follow s.1 s.2) default qr_keep_follow 2 []
theorem ok_keep_follow : SpecOk Try.prog 50 (F_keep_follow).spec :=
  specF_ok (A := za86) zh86 Facts.mix Try.func50 (c := zc86) (by kernel_rfl) (Lc := 0) trivial zr86 2 5 [] (fun s => T_keep_follow s.1 s.2) default qr_keep_follow 2 [] [.pubB 4] (by decide) (by kernel_rfl) (by rfl) (by decide) (by decide) (by rfl)
    (by rintro ⟨a0, a1⟩; kernel_rfl)

noncomputable def zc87 : Code := Try.f4.body.getD .skip
def zv87 : List (List Nat) := [[1], [1, 19], [2], [1, 3], [1, 3, 4], [1, 3, 4, 23, 24, 25], [1, 3, 4, 23, 24, 25, 26], [1, 3, 4, 5, 6, 23, 24, 25], [1, 3, 4, 5, 6, 7, 23, 24, 25], [1, 3, 4, 5, 6, 23, 24, 25, 64], [2], [1, 3, 4, 6, 23, 24, 25, 72], [1, 3, 4, 23, 24, 25], [1, 3, 4, 23, 24, 25], [3, 4, 77, 78], [3, 4, 77, 78, 79], [3, 4, 8, 9, 77, 78], [3, 4, 8, 9, 10, 77, 78], [3, 4, 8, 9, 10, 77, 78, 82, 83, 84], [3, 4, 8, 9, 10, 77, 78, 82, 83, 84, 85], [3, 4, 8, 9, 10, 12, 77, 78, 82, 83, 84], [3, 4, 8, 9, 10, 77, 78, 82, 83, 84], [3, 4, 8, 9, 10, 77, 78, 82, 83, 84], [3, 4, 77, 78, 120], [2], [3, 4, 77, 78], [2]]
noncomputable def zy87 : EnvT := ⟨Try.prog, lookT [(19, F_stake_Good), (24, F_keep_stakes), (25, F_stake_Set)]⟩
theorem zh87 : (zy87).Ok := lookT_ok ⟨ok_stake_Good, ok_keep_stakes, ok_stake_Set, trivial⟩
def T_keep_StakeSet_l1 (x0 : (List Power)) (x1 : Int) (x2 : (List Power)) (x3 : Int) (x4 : Int) (x5 : Stake) : Tr (((List Power) × Int × (List Power) × Int × Int × Stake) ⊕ ((Bool) ⊕ ((List Power) × Int × Stake))) :=
  (.ite (decide (x4 < x3))
    (.guard ((0 : Int) ≤ x4 ∧ x4 < ((Sl.len (.powers x2) : Nat) : Int))
    (.guard ((0 : Int) ≤ ((x2.getD x4.toNat default).V) ∧ (((x2.getD x4.toNat default).V) : Int) < 6)
    (.guard (((x5.Validators.Jailed.get ((x2.getD x4.toNat default).V)) = false → ((100 : Int) ≠ 0) ∧ True))
    (.guard (((decide (x4 > 0)) = true → ((((x5.Validators.Jailed.get ((x2.getD x4.toNat default).V)) || (((x2.getD x4.toNat default).N) != (IntKind.i64.wrap (Int.tdiv (x5.Validators.Tokens.get ((x2.getD x4.toNat default).V)) 100)))) || (decide (((x2.getD x4.toNat default).N) < 1))) = false → ((0 : Int) ≤ (IntKind.i64.wrap (x4 - 1)) ∧ (IntKind.i64.wrap (x4 - 1)) < ((Sl.len (.powers x0) : Nat) : Int)) ∧ True)))
    (.ite ((((x5.Validators.Jailed.get ((x2.getD x4.toNat default).V)) || (((x2.getD x4.toNat default).N) != (IntKind.i64.wrap (Int.tdiv (x5.Validators.Tokens.get ((x2.getD x4.toNat default).V)) 100)))) || (decide (((x2.getD x4.toNat default).N) < 1))) || ((decide (x4 > 0)) && (decide (((x0.getD ((IntKind.i64.wrap (x4 - 1)).toNat) default).V) ≥ ((x2.getD x4.toNat default).V)))))
      (.leaf (.inr (.inl false)))
      (.ite ((x4 == 0) || (decide (((x2.getD x4.toNat default).N) < x1)))
        (.leaf (.inl (x0, (x2.getD x4.toNat default).N, x2, x3, IntKind.i64.wrap (x4 + 1), x5)))
        (.leaf (.inl (x0, x1, x2, x3, IntKind.i64.wrap (x4 + 1), x5)))))))))
    (.leaf (.inr (.inr (x0, x1, x5)))))
def sh_keep_StakeSet_l1 (x0 : (List Power)) (x1 : Int) (x2 : (List Power)) (x3 : Int) (x4 : Int) (x5 : Stake) : Option ((Bool) ⊕ ((List Power) × Int × Stake)) := iter (fun s : (List Power) × Int × (List Power) × Int × Int × Stake => (T_keep_StakeSet_l1 s.1 s.2.1 s.2.2.1 s.2.2.2.1 s.2.2.2.2.1 s.2.2.2.2.2).run) (x0, x1, x2, x3, x4, x5)
def za87a : Ann := ⟨[], [], [], zv87, []⟩
def zq87a : EndD ((List Power) × Int × (List Power) × Int × Int × Stake) := ⟨(LQ.skip (LQ.const (.ptr 0 0)) (LQ.seq (Par.q powersP) (LQ.seq (Par.q intP) (LQ.seq (Par.q powersP) (LQ.seq (Par.q intP) (LQ.seq (Par.q intP) (LP.q stakeL))))))), ⟨[1, 3, 4, 23, 24, 25], [.pub 3, .nilsl 3 (.powers []), .pub 23, .nilsl 23 (.powers [])]⟩, [.cells 32 63]⟩
def zq87ae0 : EndD (Bool) := ⟨(Par.q boolP), ⟨[2], []⟩, []⟩
def zq87ae1 : EndD ((List Power) × Int × Stake) := ⟨(LQ.skip (LQ.const (.ptr 0 0)) (LQ.seq (Par.q powersP) (LQ.seq (Par.q intP) (LP.q stakeL)))), ⟨[1, 3, 4], [.pub 3, .nilsl 3 (.powers [])]⟩, [.cells 32 63]⟩
def zl87a : St → Option LR := L2 125 5 0 zq87a .ret zq87ae0 (.exit 0) zq87ae1 (fun s => T_keep_StakeSet_l1 s.1 s.2.1 s.2.2.1 s.2.2.2.1 s.2.2.2.2.1 s.2.2.2.2.2)
theorem zk87a : PieceOk (zy87).env 0 (sub zc87 [0, 1, 0, 1, 1, 1, 1]) zl87a :=
  loop2 (A := za87a) zh87 Facts.mix trivial (k := loopB (sub zc87 [0, 1, 0, 1, 1, 1, 1])) (by kernel_rfl) rfl rfl (by rintro ⟨x0, x1, x2, x3, x4, x5⟩; kernel_rfl)
def T_keep_StakeSet_l2 (x0 : (List Power)) (x1 : Int) (x2 : Int) (x3 : Bool) (x4 : (A6 Validator)) (x5 : Int) (x6 : (List Power)) (x7 : Int) (x8 : Int) (x9 : Validator) : Tr (((List Power) × Int × Int × Bool × (A6 Validator) × Int × (List Power) × Int × Int × Validator) ⊕ ((List Power) × Int × Bool × (A6 Validator) × Int × Validator)) :=
  (.ite (decide (x8 < x7))
    (.guard ((0 : Int) ≤ x8 ∧ x8 < ((Sl.len (.powers x6) : Nat) : Int))
    (.leaf (.inl (x0, x1, x2, x3 || (((x6.getD x8.toNat default).V) == x2), x4, x5, x6, x7, IntKind.i64.wrap (x8 + 1), x9))))
    (.leaf (.inr (x0, x1, x3, x4, x5, x9))))
def sh_keep_StakeSet_l2 (x0 : (List Power)) (x1 : Int) (x2 : Int) (x3 : Bool) (x4 : (A6 Validator)) (x5 : Int) (x6 : (List Power)) (x7 : Int) (x8 : Int) (x9 : Validator) : Option ((List Power) × Int × Bool × (A6 Validator) × Int × Validator) := iter (fun s : (List Power) × Int × Int × Bool × (A6 Validator) × Int × (List Power) × Int × Int × Validator => (T_keep_StakeSet_l2 s.1 s.2.1 s.2.2.1 s.2.2.2.1 s.2.2.2.2.1 s.2.2.2.2.2.1 s.2.2.2.2.2.2.1 s.2.2.2.2.2.2.2.1 s.2.2.2.2.2.2.2.2.1 s.2.2.2.2.2.2.2.2.2).run) (x0, x1, x2, x3, x4, x5, x6, x7, x8, x9)
def za87b : Ann := ⟨[], [], [], zv87, []⟩
def zq87b : EndD ((List Power) × Int × Int × Bool × (A6 Validator) × Int × (List Power) × Int × Int × Validator) := ⟨(LQ.seq (Par.q powersP) (LQ.seq (Par.q intP) (LQ.seq (Par.q intP) (LQ.skip (LQ.const (.ptr 0 0)) (LQ.seq (Par.q boolP) (LQ.seq (Par.q (Par.ofLP (a6L validatorL))) (LQ.seq (Par.q intP) (LQ.seq (Par.q powersP) (LQ.seq (Par.q intP) (LQ.seq (Par.q intP) (LP.q validatorL))))))))))), ⟨[3, 4, 8, 9, 10, 77, 78, 82, 83, 84], [.pub 3, .nilsl 3 (.powers []), .pub 82, .nilsl 82 (.powers [])]⟩, [.cells 26 5]⟩
def zq87be0 : EndD ((List Power) × Int × Bool × (A6 Validator) × Int × Validator) := ⟨(LQ.seq (Par.q powersP) (LQ.seq (Par.q intP) (LQ.skip (LQ.const (.ptr 0 0)) (LQ.seq (Par.q boolP) (LQ.seq (Par.q (Par.ofLP (a6L validatorL))) (LQ.seq (Par.q intP) (LP.q validatorL))))))), ⟨[3, 4, 9, 10, 77, 78], [.pub 3, .nilsl 3 (.powers [])]⟩, [.cells 26 5]⟩
def zl87b : St → Option LR := L1 125 5 0 zq87b (.exit 4) zq87be0 (fun s => T_keep_StakeSet_l2 s.1 s.2.1 s.2.2.1 s.2.2.2.1 s.2.2.2.2.1 s.2.2.2.2.2.1 s.2.2.2.2.2.2.1 s.2.2.2.2.2.2.2.1 s.2.2.2.2.2.2.2.2.1 s.2.2.2.2.2.2.2.2.2)
theorem zk87b : PieceOk (zy87).env 0 (sub zc87 [0, 1, 0, 1, 1, 0, 0, 1, 1, 0, 0, 1, 0, 1, 1, 1, 1, 1]) zl87b :=
  loop1 (A := za87b) zh87 Facts.mix trivial (k := loopB (sub zc87 [0, 1, 0, 1, 1, 0, 0, 1, 1, 0, 0, 1, 0, 1, 1, 1, 1, 1])) (by kernel_rfl) rfl (by rintro ⟨x0, x1, x2, x3, x4, x5, x6, x7, x8, x9⟩; kernel_rfl)
def T_keep_StakeSet_l3 (x0 : (List Power)) (x1 : Int) (x2 : (A6 Validator)) (x3 : Int) : Tr (((List Power) × Int × (A6 Validator) × Int) ⊕ ((Bool) ⊕ ((List Power)))) :=
  (.ite (decide (x3 < 6))
    (.guard ((0 : Int) ≤ x3 ∧ (x3 : Int) < 6)
    (.bind (sh_keep_StakeSet_l2 x0 x1 x3 false x2 x3 x0 ((x0.length : Nat) : Int) 0 (⟨A6.get ⟨x2.x0.Tokens, x2.x1.Tokens, x2.x2.Tokens, x2.x3.Tokens, x2.x4.Tokens, x2.x5.Tokens⟩ x3, A6.get ⟨x2.x0.Shares, x2.x1.Shares, x2.x2.Shares, x2.x3.Shares, x2.x4.Shares, x2.x5.Shares⟩ x3, A6.get ⟨x2.x0.Lost, x2.x1.Lost, x2.x2.Lost, x2.x3.Lost, x2.x4.Lost, x2.x5.Lost⟩ x3, A6.get ⟨x2.x0.Jailed, x2.x1.Jailed, x2.x2.Jailed, x2.x3.Jailed, x2.x4.Jailed, x2.x5.Jailed⟩ x3, A6.get ⟨x2.x0.Dead, x2.x1.Dead, x2.x2.Dead, x2.x3.Dead, x2.x4.Dead, x2.x5.Dead⟩ x3⟩ : Validator)) fun v6 =>
    (.guard ((((!v6.2.2.1) && (!v6.2.2.2.2.2.Jailed)) = true → ((100 : Int) ≠ 0) ∧ True))
    (.guard (((decide (((v6.1.length : Nat) : Int) < 4)) = false → ((((!v6.2.2.1) && (!v6.2.2.2.2.2.Jailed)) && (decide ((IntKind.i64.wrap (Int.tdiv v6.2.2.2.2.2.Tokens 100)) > 0))) = true → ((100 : Int) ≠ 0) ∧ True)))
    (.ite ((((!v6.2.2.1) && (!v6.2.2.2.2.2.Jailed)) && (decide ((IntKind.i64.wrap (Int.tdiv v6.2.2.2.2.2.Tokens 100)) > 0))) && ((decide (((v6.1.length : Nat) : Int) < 4)) || (decide ((IntKind.i64.wrap (Int.tdiv v6.2.2.2.2.2.Tokens 100)) > v6.2.1))))
      (.leaf (.inr (.inl false)))
      (.leaf (.inl (v6.1, v6.2.1, v6.2.2.2.1, IntKind.i64.wrap (v6.2.2.2.2.1 + 1)))))))))
    (.leaf (.inr (.inr x0))))
def sh_keep_StakeSet_l3 (x0 : (List Power)) (x1 : Int) (x2 : (A6 Validator)) (x3 : Int) : Option ((Bool) ⊕ ((List Power))) := iter (fun s : (List Power) × Int × (A6 Validator) × Int => (T_keep_StakeSet_l3 s.1 s.2.1 s.2.2.1 s.2.2.2).run) (x0, x1, x2, x3)
def za87c : Ann := ⟨[([0, 1, 0, 1, 1, 0, 0, 1, 1, 0, 0, 1, 0, 1, 1, 1, 1, 1], zl87b)], [], [], zv87, []⟩
def zq87c : EndD ((List Power) × Int × (A6 Validator) × Int) := ⟨(LQ.seq (Par.q powersP) (LQ.seq (Par.q intP) (LQ.seq (Par.q (Par.ofLP (a6L validatorL))) (Par.q intP)))), ⟨[3, 4, 77, 78], [.pub 3, .nilsl 3 (.powers [])]⟩, []⟩
def zq87ce0 : EndD (Bool) := ⟨(Par.q boolP), ⟨[2], []⟩, []⟩
def zq87ce1 : EndD ((List Power)) := ⟨(Par.q powersP), ⟨[3], [.pub 3, .nilsl 3 (.powers [])]⟩, []⟩
def zl87c : St → Option LR := L2 125 5 0 zq87c .ret zq87ce0 (.exit 2) zq87ce1 (fun s => T_keep_StakeSet_l3 s.1 s.2.1 s.2.2.1 s.2.2.2)
theorem zk87c : PieceOk (zy87).env 0 (sub zc87 [0, 1, 0, 1, 1, 1, 1, 1]) zl87c :=
  loop2 (A := za87c) zh87 Facts.mix ⟨zk87b, trivial⟩ (k := loopB (sub zc87 [0, 1, 0, 1, 1, 1, 1, 1])) (by kernel_rfl) rfl rfl (by rintro ⟨x0, x1, x2, x3⟩; kernel_rfl)
def za87 : Ann := ⟨[([0, 1, 0, 1, 1, 1, 1], zl87a), ([0, 1, 0, 1, 1, 1, 1, 1], zl87c)], [], [], zv87, []⟩
def T_keep_StakeSet (a0 : Stake) : Tr (Bool) :=
  (.bind (sh_stake_Good a0) fun v1 =>
  (.guard (((!v1) = false → ((sh_keep_stakes).isSome = true) ∧ True))
  (.ite ((!v1) || (!((sh_keep_stakes).getD default)))
    (.bind (sh_keep_stakes) fun v2 =>
    (.leaf v2))
    (.bind (sh_stake_Set a0) fun v3 =>
    (.two (sh_keep_StakeSet_l1 v3 0 v3 ((v3.length : Nat) : Int) 0 a0) (fun v4 =>
      (.leaf v4)) (fun v5 =>
      (.two (sh_keep_StakeSet_l3 v5.1 v5.2.1 (⟨(⟨v5.2.2.Validators.Tokens.x0, v5.2.2.Validators.Shares.x0, v5.2.2.Validators.Lost.x0, v5.2.2.Validators.Jailed.x0, v5.2.2.Validators.Dead.x0⟩ : Validator), (⟨v5.2.2.Validators.Tokens.x1, v5.2.2.Validators.Shares.x1, v5.2.2.Validators.Lost.x1, v5.2.2.Validators.Jailed.x1, v5.2.2.Validators.Dead.x1⟩ : Validator), (⟨v5.2.2.Validators.Tokens.x2, v5.2.2.Validators.Shares.x2, v5.2.2.Validators.Lost.x2, v5.2.2.Validators.Jailed.x2, v5.2.2.Validators.Dead.x2⟩ : Validator), (⟨v5.2.2.Validators.Tokens.x3, v5.2.2.Validators.Shares.x3, v5.2.2.Validators.Lost.x3, v5.2.2.Validators.Jailed.x3, v5.2.2.Validators.Dead.x3⟩ : Validator), (⟨v5.2.2.Validators.Tokens.x4, v5.2.2.Validators.Shares.x4, v5.2.2.Validators.Lost.x4, v5.2.2.Validators.Jailed.x4, v5.2.2.Validators.Dead.x4⟩ : Validator), (⟨v5.2.2.Validators.Tokens.x5, v5.2.2.Validators.Shares.x5, v5.2.2.Validators.Lost.x5, v5.2.2.Validators.Jailed.x5, v5.2.2.Validators.Dead.x5⟩ : Validator)⟩ : (A6 Validator)) 0) (fun v7 =>
        (.leaf v7)) (fun v8 =>
        (.leaf (decide (((v8.length : Nat) : Int) ≤ 4)))))))))))
def sh_keep_StakeSet (a0 : Stake) : Option (Bool) := (T_keep_StakeSet a0).run
def zr87 : LQ (Stake) := (Par.q (Par.ofLP stakeL))
def qr_keep_StakeSet : LQ (Bool) := (Par.q boolP)
def F_keep_StakeSet : SpecT := specF 0 zr87 1 [] (fun s => T_keep_StakeSet s) default qr_keep_StakeSet 1 []
theorem ok_keep_StakeSet : SpecOk Try.prog 4 (F_keep_StakeSet).spec :=
  specF_ok (A := za87) zh87 Facts.mix Try.func4 (c := zc87) (by kernel_rfl) (Lc := 0) ⟨zk87a, zk87c, trivial⟩ zr87 1 5 [] (fun s => T_keep_StakeSet s) default qr_keep_StakeSet 1 [] [] (by decide) (by kernel_rfl) (by rfl) (by decide) (by decide) (by rfl)
    (by rintro a0; kernel_rfl)

noncomputable def zc88 : Code := Try.f5.body.getD .skip
def zv88 : List (List Nat) := [[1, 2], [1, 2, 5, 6, 7], [1, 2, 5, 6, 30], [4], [1, 2, 5, 6, 8], [1, 2, 5, 6, 8, 38, 39, 40], [1, 2, 5, 6, 8, 38, 39, 40, 41], [1, 2, 5, 6, 8, 10, 38, 39, 40], [1, 2, 5, 6, 8, 10, 11, 38, 39, 40], [1, 2, 5, 6, 8, 10, 11, 12, 38, 39, 40], [1, 2, 5, 6, 8, 10, 11, 12, 38, 39, 40, 54, 55, 56], [1, 2, 5, 6, 8, 10, 11, 12, 38, 39, 40, 54, 55, 56, 57], [1, 2, 5, 6, 8, 10, 11, 12, 14, 38, 39, 40, 54, 55, 56], [1, 2, 5, 6, 8, 10, 11, 12, 38, 39, 40, 54, 55, 56], [1, 2, 5, 6, 8, 10, 11, 12, 38, 39, 40, 54, 55, 56], [1, 2, 5, 6, 8, 10, 12, 38, 39, 40, 70], [4], [1, 2, 5, 6, 8, 10, 38, 39, 40, 71], [1, 2, 5, 6, 8, 38, 39, 40], [1, 2, 5, 6, 8, 38, 39, 40], [2, 5, 6, 8, 16, 17], [4]]
noncomputable def zy88 : EnvT := ⟨Try.prog, lookT [(26, F_stake_Pay), (24, F_keep_stakes)]⟩
theorem zh88 : (zy88).Ok := lookT_ok ⟨ok_stake_Pay, ok_keep_stakes, trivial⟩
def T_keep_StakePaid_l1 (x0 : Int) (x1 : (List Int)) (x2 : Int) (x3 : Bool) (x4 : Bool) (x5 : (List Wait)) (x6 : Int) (x7 : Int) (x8 : (List Int)) (x9 : Int) (x10 : Int) (x11 : Stake) (x12 : Stake) (x13 : Wait) : Tr ((Int × (List Int) × Int × Bool × Bool × (List Wait) × Int × Int × (List Int) × Int × Int × Stake × Stake × Wait) ⊕ (Int × (List Int) × Int × Bool × Bool × (List Wait) × Int × Int × Stake × Stake × Wait)) :=
  (.ite (decide (x10 < x9))
    (.guard ((0 : Int) ≤ x10 ∧ x10 < ((Sl.len (.ints x8) : Nat) : Int))
    (.leaf (.inl (x0, x1, x2, x3, x4 || ((x8.getD x10.toNat 0) == x13.Number), x5, x6, x7, x8, x9, IntKind.i64.wrap (x10 + 1), x11, x12, x13))))
    (.leaf (.inr (x0, x1, x2, x3, x4, x5, x6, x7, x11, x12, x13))))
def sh_keep_StakePaid_l1 (x0 : Int) (x1 : (List Int)) (x2 : Int) (x3 : Bool) (x4 : Bool) (x5 : (List Wait)) (x6 : Int) (x7 : Int) (x8 : (List Int)) (x9 : Int) (x10 : Int) (x11 : Stake) (x12 : Stake) (x13 : Wait) : Option (Int × (List Int) × Int × Bool × Bool × (List Wait) × Int × Int × Stake × Stake × Wait) := iter (fun s : Int × (List Int) × Int × Bool × Bool × (List Wait) × Int × Int × (List Int) × Int × Int × Stake × Stake × Wait => (T_keep_StakePaid_l1 s.1 s.2.1 s.2.2.1 s.2.2.2.1 s.2.2.2.2.1 s.2.2.2.2.2.1 s.2.2.2.2.2.2.1 s.2.2.2.2.2.2.2.1 s.2.2.2.2.2.2.2.2.1 s.2.2.2.2.2.2.2.2.2.1 s.2.2.2.2.2.2.2.2.2.2.1 s.2.2.2.2.2.2.2.2.2.2.2.1 s.2.2.2.2.2.2.2.2.2.2.2.2.1 s.2.2.2.2.2.2.2.2.2.2.2.2.2).run) (x0, x1, x2, x3, x4, x5, x6, x7, x8, x9, x10, x11, x12, x13)
def za88a : Ann := ⟨[], [], [], zv88, []⟩
def zq88a : EndD (Int × (List Int) × Int × Bool × Bool × (List Wait) × Int × Int × (List Int) × Int × Int × Stake × Stake × Wait) := ⟨(LQ.seq (Par.q intP) (LQ.skip (LQ.const (.ptr 0 0)) (LQ.skip (LQ.const (.ptr 1 0)) (LQ.seq (Par.q intsP) (LQ.seq (Par.q intP) (LQ.skip (LQ.const (.ptr 2 0)) (LQ.seq (Par.q boolP) (LQ.seq (Par.q boolP) (LQ.seq (Par.q waitsP) (LQ.seq (Par.q intP) (LQ.seq (Par.q intP) (LQ.seq (Par.q intsP) (LQ.seq (Par.q intP) (LQ.seq (Par.q intP) (LQ.seq (LP.q stakeL) (LQ.seq (LP.q stakeL) (LP.q waitL))))))))))))))))), ⟨[1, 2, 5, 6, 8, 10, 11, 12, 38, 39, 40, 54, 55, 56], [.pub 6, .nilsl 6 (.ints []), .pub 38, .nilsl 38 (.waits []), .pub 54, .nilsl 54 (.ints [])]⟩, [.cells 32 63, .cells 32 63, .cells 51 8]⟩
def zq88ae0 : EndD (Int × (List Int) × Int × Bool × Bool × (List Wait) × Int × Int × Stake × Stake × Wait) := ⟨(LQ.seq (Par.q intP) (LQ.skip (LQ.const (.ptr 0 0)) (LQ.skip (LQ.const (.ptr 1 0)) (LQ.seq (Par.q intsP) (LQ.seq (Par.q intP) (LQ.skip (LQ.const (.ptr 2 0)) (LQ.seq (Par.q boolP) (LQ.seq (Par.q boolP) (LQ.seq (Par.q waitsP) (LQ.seq (Par.q intP) (LQ.seq (Par.q intP) (LQ.seq (LP.q stakeL) (LQ.seq (LP.q stakeL) (LP.q waitL)))))))))))))), ⟨[1, 2, 5, 6, 8, 10, 11, 12, 38, 39, 40], [.pub 6, .nilsl 6 (.ints []), .pub 38, .nilsl 38 (.waits [])]⟩, [.cells 32 63, .cells 32 63, .cells 51 8]⟩
def zl88a : St → Option LR := L1 123 5 0 zq88a (.exit 2) zq88ae0 (fun s => T_keep_StakePaid_l1 s.1 s.2.1 s.2.2.1 s.2.2.2.1 s.2.2.2.2.1 s.2.2.2.2.2.1 s.2.2.2.2.2.2.1 s.2.2.2.2.2.2.2.1 s.2.2.2.2.2.2.2.2.1 s.2.2.2.2.2.2.2.2.2.1 s.2.2.2.2.2.2.2.2.2.2.1 s.2.2.2.2.2.2.2.2.2.2.2.1 s.2.2.2.2.2.2.2.2.2.2.2.2.1 s.2.2.2.2.2.2.2.2.2.2.2.2.2)
theorem zk88a : PieceOk (zy88).env 0 (sub zc88 [0, 1, 0, 1, 1, 1, 0, 0, 1, 1, 0, 0, 1, 0, 1, 1, 1, 1]) zl88a :=
  loop1 (A := za88a) zh88 Facts.mix trivial (k := loopB (sub zc88 [0, 1, 0, 1, 1, 1, 0, 0, 1, 1, 0, 0, 1, 0, 1, 1, 1, 1])) (by kernel_rfl) rfl (by rintro ⟨x0, x1, x2, x3, x4, x5, x6, x7, x8, x9, x10, x11, x12, x13⟩; kernel_rfl)
def T_keep_StakePaid_l2 (x0 : Int) (x1 : (List Int)) (x2 : Int) (x3 : (List Wait)) (x4 : Int) (x5 : Int) (x6 : Stake) (x7 : Stake) : Tr ((Int × (List Int) × Int × (List Wait) × Int × Int × Stake × Stake) ⊕ ((Bool) ⊕ (Int × (List Int) × Int × Stake × Stake))) :=
  (.ite (decide (x5 < x4))
    (.guard ((0 : Int) ≤ x5 ∧ x5 < ((Sl.len (.waits x3) : Nat) : Int))
    (.bind (sh_keep_StakePaid_l1 x0 x1 x2 ((decide (((x3.getD x5.toNat default).Due) ≤ x0)) && ((((x3.getD x5.toNat default).h0) == 0) && ((((x3.getD x5.toNat default).h1) == 0) && true))) false x3 x4 x5 x1 ((x1.length : Nat) : Int) 0 x6 x7 (x3.getD x5.toNat default)) fun v2 =>
    (.ite (!(v2.2.2.2.1 == v2.2.2.2.2.1))
      (.leaf (.inr (.inl false)))
      (.ite (v2.2.2.2.2.1)
        (.leaf (.inl (v2.1, v2.2.1, IntKind.i64.wrap (v2.2.2.1 + v2.2.2.2.2.2.2.2.2.2.2.Amount), v2.2.2.2.2.2.1, v2.2.2.2.2.2.2.1, IntKind.i64.wrap (v2.2.2.2.2.2.2.2.1 + 1), v2.2.2.2.2.2.2.2.2.1, v2.2.2.2.2.2.2.2.2.2.1)))
        (.leaf (.inl (v2.1, v2.2.1, v2.2.2.1, v2.2.2.2.2.2.1, v2.2.2.2.2.2.2.1, IntKind.i64.wrap (v2.2.2.2.2.2.2.2.1 + 1), v2.2.2.2.2.2.2.2.2.1, v2.2.2.2.2.2.2.2.2.2.1)))))))
    (.leaf (.inr (.inr (x0, x1, x2, x6, x7)))))
def sh_keep_StakePaid_l2 (x0 : Int) (x1 : (List Int)) (x2 : Int) (x3 : (List Wait)) (x4 : Int) (x5 : Int) (x6 : Stake) (x7 : Stake) : Option ((Bool) ⊕ (Int × (List Int) × Int × Stake × Stake)) := iter (fun s : Int × (List Int) × Int × (List Wait) × Int × Int × Stake × Stake => (T_keep_StakePaid_l2 s.1 s.2.1 s.2.2.1 s.2.2.2.1 s.2.2.2.2.1 s.2.2.2.2.2.1 s.2.2.2.2.2.2.1 s.2.2.2.2.2.2.2).run) (x0, x1, x2, x3, x4, x5, x6, x7)
def za88b : Ann := ⟨[([0, 1, 0, 1, 1, 1, 0, 0, 1, 1, 0, 0, 1, 0, 1, 1, 1, 1], zl88a)], [], [], zv88, []⟩
def zq88b : EndD (Int × (List Int) × Int × (List Wait) × Int × Int × Stake × Stake) := ⟨(LQ.seq (Par.q intP) (LQ.skip (LQ.const (.ptr 0 0)) (LQ.skip (LQ.const (.ptr 1 0)) (LQ.seq (Par.q intsP) (LQ.seq (Par.q intP) (LQ.seq (Par.q waitsP) (LQ.seq (Par.q intP) (LQ.seq (Par.q intP) (LQ.seq (LP.q stakeL) (LP.q stakeL)))))))))), ⟨[1, 2, 5, 6, 8, 38, 39, 40], [.pub 6, .nilsl 6 (.ints []), .pub 38, .nilsl 38 (.waits [])]⟩, [.cells 32 63, .cells 32 63]⟩
def zq88be0 : EndD (Bool) := ⟨(Par.q boolP), ⟨[4], []⟩, []⟩
def zq88be1 : EndD (Int × (List Int) × Int × Stake × Stake) := ⟨(LQ.seq (Par.q intP) (LQ.skip (LQ.const (.ptr 0 0)) (LQ.skip (LQ.const (.ptr 1 0)) (LQ.seq (Par.q intsP) (LQ.seq (Par.q intP) (LQ.seq (LP.q stakeL) (LP.q stakeL))))))), ⟨[1, 2, 5, 6, 8], [.pub 6, .nilsl 6 (.ints [])]⟩, [.cells 32 63, .cells 32 63]⟩
def zl88b : St → Option LR := L2 123 5 0 zq88b .ret zq88be0 (.exit 0) zq88be1 (fun s => T_keep_StakePaid_l2 s.1 s.2.1 s.2.2.1 s.2.2.2.1 s.2.2.2.2.1 s.2.2.2.2.2.1 s.2.2.2.2.2.2.1 s.2.2.2.2.2.2.2)
theorem zk88b : PieceOk (zy88).env 0 (sub zc88 [0, 1, 0, 1, 1, 1, 1]) zl88b :=
  loop2 (A := za88b) zh88 Facts.mix ⟨zk88a, trivial⟩ (k := loopB (sub zc88 [0, 1, 0, 1, 1, 1, 1])) (by kernel_rfl) rfl rfl (by rintro ⟨x0, x1, x2, x3, x4, x5, x6, x7⟩; kernel_rfl)
def za88 : Ann := ⟨[([0, 1, 0, 1, 1, 1, 1], zl88b)], [], [], zv88, []⟩
def T_keep_StakePaid (a0 : Stake) (a1 : Int) : Tr (Bool) :=
  (.bind (sh_stake_Pay a0 a1) fun v1 =>
  (.guard (((v1.2.2 != 0) = false → ((sh_keep_stakes).isSome = true) ∧ True))
  (.ite ((v1.2.2 != 0) || (!((sh_keep_stakes).getD default)))
    (.guard (((((v1.2.1.length : Nat) : Int) == 0) = true → ((sh_keep_stakes).isSome = true) ∧ True))
    (.leaf ((((v1.2.1.length : Nat) : Int) == 0) && ((sh_keep_stakes).getD default))))
    (.two (sh_keep_StakePaid_l2 a1 v1.2.1 0 a0.Waits ((a0.Waits.length : Nat) : Int) 0 a0 v1.1) (fun v3 =>
      (.leaf v3)) (fun v4 =>
      (.bind (sh_stake_Pay v4.2.2.2.2 v4.1) fun v5 =>
      (.leaf (((((v5.2.2 == 0) && (((v5.2.1.length : Nat) : Int) == 0)) && ((IntKind.i64.wrap (((v4.2.2.2.2.Waits.length : Nat) : Int) + ((v4.2.1.length : Nat) : Int))) == ((v4.2.2.2.1.Waits.length : Nat) : Int))) && ((IntKind.i64.wrap (v4.2.2.2.1.Bank.Waiting - v4.2.2.2.2.Bank.Waiting)) == v4.2.2.1)) && (v4.2.2.2.2.Bank.Bonded == v4.2.2.2.1.Bank.Bonded)))))))))
def sh_keep_StakePaid (a0 : Stake) (a1 : Int) : Option (Bool) := (T_keep_StakePaid a0 a1).run
def zr88 : LQ (Stake × Int) := (LQ.seq (Par.q (Par.ofLP stakeL)) (Par.q intP))
def qr_keep_StakePaid : LQ (Bool) := (Par.q boolP)
def F_keep_StakePaid : SpecT := specF 0 zr88 2 [] (fun s => T_keep_StakePaid s.1 s.2) default qr_keep_StakePaid 1 []
theorem ok_keep_StakePaid : SpecOk Try.prog 5 (F_keep_StakePaid).spec :=
  specF_ok (A := za88) zh88 Facts.mix Try.func5 (c := zc88) (by kernel_rfl) (Lc := 0) ⟨zk88b, trivial⟩ zr88 2 5 [] (fun s => T_keep_StakePaid s.1 s.2) default qr_keep_StakePaid 1 [] [] (by decide) (by kernel_rfl) (by rfl) (by decide) (by decide) (by rfl)
    (by rintro ⟨a0, a1⟩; kernel_rfl)

noncomputable def zc89 : Code := Try.f8.body.getD .skip
def zv89 : List (List Nat) := [[0, 1, 2], [7, 8, 9], [7, 8, 9, 10, 11], [7, 8, 9, 10, 12], [7, 8, 9, 10, 12, 13], [7, 8, 9, 10, 12, 13, 33, 34, 35], [7, 8, 9, 10, 12, 13, 33, 34, 35, 36], [7, 8, 9, 10, 12, 13, 15, 33, 34, 35], [7, 8, 9, 10, 12, 13, 33, 34, 35], [7, 8, 9, 10, 12, 13, 33, 34, 35], [6]]
noncomputable def zy89 : EnvT := ⟨Try.prog, lookT [(40, F_keep_made), (33, F_stake_Diff), (36, F_stake_Apply), (41, F_keep_samePowers), (38, F_stake_All), (24, F_keep_stakes)]⟩
theorem zh89 : (zy89).Ok := lookT_ok ⟨ok_keep_made, ok_stake_Diff, ok_stake_Apply, ok_keep_samePowers, ok_stake_All, ok_keep_stakes, trivial⟩
def T_keep_StakeDiffs_l1 (x0 : (List Power)) (x1 : (List Power)) (x2 : (List Power)) (x3 : (List Power)) (x4 : (List Power)) (x5 : Int) (x6 : (List Power)) (x7 : Int) (x8 : Int) : Tr (((List Power) × (List Power) × (List Power) × (List Power) × (List Power) × Int × (List Power) × Int × Int) ⊕ ((List Power) × (List Power) × (List Power) × (List Power) × (List Power) × Int)) :=
  (.ite (decide (x8 < x7))
    (.guard ((0 : Int) ≤ x8 ∧ x8 < ((Sl.len (.powers x6) : Nat) : Int))
    (.leaf (.inl (x0, x1, x2, x3, x4, IntKind.i64.wrap (x5 + ((x6.getD x8.toNat default).N)), x6, x7, IntKind.i64.wrap (x8 + 1)))))
    (.leaf (.inr (x0, x1, x2, x3, x4, x5))))
def sh_keep_StakeDiffs_l1 (x0 : (List Power)) (x1 : (List Power)) (x2 : (List Power)) (x3 : (List Power)) (x4 : (List Power)) (x5 : Int) (x6 : (List Power)) (x7 : Int) (x8 : Int) : Option ((List Power) × (List Power) × (List Power) × (List Power) × (List Power) × Int) := iter (fun s : (List Power) × (List Power) × (List Power) × (List Power) × (List Power) × Int × (List Power) × Int × Int => (T_keep_StakeDiffs_l1 s.1 s.2.1 s.2.2.1 s.2.2.2.1 s.2.2.2.2.1 s.2.2.2.2.2.1 s.2.2.2.2.2.2.1 s.2.2.2.2.2.2.2.1 s.2.2.2.2.2.2.2.2).run) (x0, x1, x2, x3, x4, x5, x6, x7, x8)
def za89a : Ann := ⟨[], [], [], zv89, []⟩
def zq89a : EndD ((List Power) × (List Power) × (List Power) × (List Power) × (List Power) × Int × (List Power) × Int × Int) := ⟨(LQ.seq (Par.q powersP) (LQ.seq (Par.q powersP) (LQ.seq (Par.q powersP) (LQ.seq (Par.q powersP) (LQ.seq (Par.q powersP) (LQ.seq (Par.q intP) (LQ.seq (Par.q powersP) (LQ.seq (Par.q intP) (Par.q intP))))))))), ⟨[7, 8, 9, 10, 12, 13, 33, 34, 35], [.pub 7, .nilsl 7 (.powers []), .pub 8, .nilsl 8 (.powers []), .pub 9, .nilsl 9 (.powers []), .pub 10, .nilsl 10 (.powers []), .pub 12, .nilsl 12 (.powers []), .pub 33, .nilsl 33 (.powers [])]⟩, []⟩
def zq89ae0 : EndD ((List Power) × (List Power) × (List Power) × (List Power) × (List Power) × Int) := ⟨(LQ.seq (Par.q powersP) (LQ.seq (Par.q powersP) (LQ.seq (Par.q powersP) (LQ.seq (Par.q powersP) (LQ.seq (Par.q powersP) (Par.q intP)))))), ⟨[7, 8, 9, 10, 12, 13], [.pub 7, .nilsl 7 (.powers []), .pub 8, .nilsl 8 (.powers []), .pub 9, .nilsl 9 (.powers []), .pub 10, .nilsl 10 (.powers []), .pub 12, .nilsl 12 (.powers [])]⟩, []⟩
def zl89a : St → Option LR := L1 76 3 0 zq89a (.exit 0) zq89ae0 (fun s => T_keep_StakeDiffs_l1 s.1 s.2.1 s.2.2.1 s.2.2.2.1 s.2.2.2.2.1 s.2.2.2.2.2.1 s.2.2.2.2.2.2.1 s.2.2.2.2.2.2.2.1 s.2.2.2.2.2.2.2.2)
theorem zk89a : PieceOk (zy89).env 0 (sub zc89 [0, 1, 0, 1, 1, 1, 1, 1]) zl89a :=
  loop1 (A := za89a) zh89 Facts.mix trivial (k := loopB (sub zc89 [0, 1, 0, 1, 1, 1, 1, 1])) (by kernel_rfl) rfl (by rintro ⟨x0, x1, x2, x3, x4, x5, x6, x7, x8⟩; kernel_rfl)
def za89 : Ann := ⟨[([0, 1, 0, 1, 1, 1, 1, 1], zl89a)], [], [], zv89, []⟩
def T_keep_StakeDiffs (a0 : (List Int)) (a1 : (List Int)) (a2 : (List Int)) : Tr (Bool) :=
  (.bind (sh_keep_made a0) fun v1 =>
  (.bind (sh_keep_made a1) fun v2 =>
  (.bind (sh_keep_made a2) fun v3 =>
  (.bind (sh_stake_Diff v1 v2) fun v4 =>
  (.bind (sh_stake_Diff v2 v3) fun v5 =>
  (.bind (sh_stake_Apply v1 v4) fun v6 =>
  (.bind (sh_stake_Apply v6 v5) fun v7 =>
  (.bind (sh_keep_StakeDiffs_l1 v1 v2 v3 v4 v7 0 v1 ((v1.length : Nat) : Int) 0) fun v8 =>
  (.bind (sh_stake_Apply v8.1 v8.2.2.2.1) fun v9 =>
  (.bind (sh_keep_samePowers v9 v8.2.1) fun v10 =>
  (.guard ((v10 = true → ((sh_keep_samePowers v8.2.2.2.2.1 v8.2.2.1).isSome = true) ∧ True))
  (.guard (((v10 && ((sh_keep_samePowers v8.2.2.2.2.1 v8.2.2.1).getD default)) = true → ((sh_stake_Diff v8.1 v8.1).isSome = true) ∧ True))
  (.guard ((((v10 && ((sh_keep_samePowers v8.2.2.2.2.1 v8.2.2.1).getD default)) && (((((sh_stake_Diff v8.1 v8.1).getD default).length : Nat) : Int) == 0)) = true → ((sh_stake_Apply v8.1 []).isSome = true) ∧ True))
  (.guard ((((v10 && ((sh_keep_samePowers v8.2.2.2.2.1 v8.2.2.1).getD default)) && (((((sh_stake_Diff v8.1 v8.1).getD default).length : Nat) : Int) == 0)) = true → ((sh_keep_samePowers ((sh_stake_Apply v8.1 []).getD default) v8.1).isSome = true) ∧ True))
  (.guard (((((v10 && ((sh_keep_samePowers v8.2.2.2.2.1 v8.2.2.1).getD default)) && (((((sh_stake_Diff v8.1 v8.1).getD default).length : Nat) : Int) == 0)) && ((sh_keep_samePowers ((sh_stake_Apply v8.1 []).getD default) v8.1).getD default)) = true → ((sh_stake_All v8.1).isSome = true) ∧ True))
  (.guard ((((((v10 && ((sh_keep_samePowers v8.2.2.2.2.1 v8.2.2.1).getD default)) && (((((sh_stake_Diff v8.1 v8.1).getD default).length : Nat) : Int) == 0)) && ((sh_keep_samePowers ((sh_stake_Apply v8.1 []).getD default) v8.1).getD default)) && (((sh_stake_All v8.1).getD default) == v8.2.2.2.2.2)) = true → ((sh_keep_stakes).isSome = true) ∧ True))
  (.leaf (((((v10 && ((sh_keep_samePowers v8.2.2.2.2.1 v8.2.2.1).getD default)) && (((((sh_stake_Diff v8.1 v8.1).getD default).length : Nat) : Int) == 0)) && ((sh_keep_samePowers ((sh_stake_Apply v8.1 []).getD default) v8.1).getD default)) && (((sh_stake_All v8.1).getD default) == v8.2.2.2.2.2)) && ((sh_keep_stakes).getD default)))))))))))))))))))
def sh_keep_StakeDiffs (a0 : (List Int)) (a1 : (List Int)) (a2 : (List Int)) : Option (Bool) := (T_keep_StakeDiffs a0 a1 a2).run
def zr89 : LQ ((List Int) × (List Int) × (List Int)) := (LQ.seq (Par.q intsP) (LQ.seq (Par.q intsP) (Par.q intsP)))
def qr_keep_StakeDiffs : LQ (Bool) := (Par.q boolP)
def F_keep_StakeDiffs : SpecT := specF 0 zr89 3 [] (fun s => T_keep_StakeDiffs s.1 s.2.1 s.2.2) default qr_keep_StakeDiffs 1 []
theorem ok_keep_StakeDiffs : SpecOk Try.prog 8 (F_keep_StakeDiffs).spec :=
  specF_ok (A := za89) zh89 Facts.mix Try.func8 (c := zc89) (by kernel_rfl) (Lc := 0) ⟨zk89a, trivial⟩ zr89 3 3 [] (fun s => T_keep_StakeDiffs s.1 s.2.1 s.2.2) default qr_keep_StakeDiffs 1 [] [] (by decide) (by kernel_rfl) (by rfl) (by decide) (by decide) (by rfl)
    (by rintro ⟨a0, a1, a2⟩; kernel_rfl)

noncomputable def zc90 : Code := Try.f10.body.getD .skip
def zv90 : List (List Nat) := [[1, 2, 3, 4], [1, 2, 3, 4, 9, 10], [1, 2, 3, 4, 9, 28], [8], [1, 2, 3, 4, 9, 11], [1, 2, 3, 4, 11, 12, 13], [1, 2, 3, 4, 11, 12, 13, 53], [8], [1, 2, 3, 4, 11, 12, 14], [8]]
noncomputable def zy90 : EnvT := ⟨Try.prog, lookT [(16, F_stake_Delegate), (24, F_keep_stakes), (42, F_stake_Undelegate)]⟩
theorem zh90 : (zy90).Ok := lookT_ok ⟨ok_stake_Delegate, ok_keep_stakes, ok_stake_Undelegate, trivial⟩
def za90 : Ann := ⟨[], [], [], zv90, []⟩
def T_keep_StakeRound (a0 : Stake) (a1 : Int) (a2 : Int) (a3 : Int) : Tr (Bool) :=
  (.bind (sh_stake_Delegate a0 a1 a2 a3) fun v1 =>
  (.guard (((v1.2 != 0) = false → ((sh_keep_stakes).isSome = true) ∧ True))
  (.ite ((v1.2 != 0) || (!((sh_keep_stakes).getD default)))
    (.bind (sh_keep_stakes) fun v2 =>
    (.leaf v2))
    (.guard ((0 : Int) ≤ a1 ∧ (a1 : Int) < 4)
    (.guard ((0 : Int) ≤ a2 ∧ (a2 : Int) < 6)
    (.guard ((0 : Int) ≤ a1 ∧ (a1 : Int) < 4)
    (.guard ((0 : Int) ≤ a2 ∧ (a2 : Int) < 6)
    (.bind (sh_stake_Undelegate v1.1 a1 a2 (IntKind.i64.wrap ((A46.get v1.1.Shares a1 a2) - (A46.get a0.Shares a1 a2))) (⟨0, 0, 0, 0, 0, 0, 0, 0⟩ : Wait)) fun v3 =>
    (.ite (v3.2 != 0)
      (.leaf ((v3.2 == 8) || (v3.2 == 6)))
      (.guard ((0 : Int) ≤ (IntKind.i64.wrap (((v3.1.Waits.length : Nat) : Int) - 1)) ∧ (IntKind.i64.wrap (((v3.1.Waits.length : Nat) : Int) - 1)) < ((Sl.len (.waits v3.1.Waits) : Nat) : Int))
      (.guard ((((((decide ((IntKind.i64.wrap ((A46.get v1.1.Shares a1 a2) - (A46.get a0.Shares a1 a2))) > 0)) && (decide (((v3.1.Waits.getD ((IntKind.i64.wrap (((v3.1.Waits.length : Nat) : Int) - 1)).toNat) default).Amount) ≤ a3))) && (((v3.1.Waits.getD ((IntKind.i64.wrap (((v3.1.Waits.length : Nat) : Int) - 1)).toNat) default).V) == a2)) && (((v3.1.Waits.getD ((IntKind.i64.wrap (((v3.1.Waits.length : Nat) : Int) - 1)).toNat) default).D) == a1)) = true → ((0 : Int) ≤ a2 ∧ (a2 : Int) < 6) ∧ True))
      (.guard ((((((decide ((IntKind.i64.wrap ((A46.get v1.1.Shares a1 a2) - (A46.get a0.Shares a1 a2))) > 0)) && (decide (((v3.1.Waits.getD ((IntKind.i64.wrap (((v3.1.Waits.length : Nat) : Int) - 1)).toNat) default).Amount) ≤ a3))) && (((v3.1.Waits.getD ((IntKind.i64.wrap (((v3.1.Waits.length : Nat) : Int) - 1)).toNat) default).V) == a2)) && (((v3.1.Waits.getD ((IntKind.i64.wrap (((v3.1.Waits.length : Nat) : Int) - 1)).toNat) default).D) == a1)) = true → ((0 : Int) ≤ a2 ∧ (a2 : Int) < 6) ∧ True))
      (.guard (((((((decide ((IntKind.i64.wrap ((A46.get v1.1.Shares a1 a2) - (A46.get a0.Shares a1 a2))) > 0)) && (decide (((v3.1.Waits.getD ((IntKind.i64.wrap (((v3.1.Waits.length : Nat) : Int) - 1)).toNat) default).Amount) ≤ a3))) && (((v3.1.Waits.getD ((IntKind.i64.wrap (((v3.1.Waits.length : Nat) : Int) - 1)).toNat) default).V) == a2)) && (((v3.1.Waits.getD ((IntKind.i64.wrap (((v3.1.Waits.length : Nat) : Int) - 1)).toNat) default).D) == a1)) && (decide ((v3.1.Validators.Tokens.get a2) ≥ (a0.Validators.Tokens.get a2)))) = true → ((0 : Int) ≤ a2 ∧ (a2 : Int) < 6) ∧ True))
      (.guard (((((((decide ((IntKind.i64.wrap ((A46.get v1.1.Shares a1 a2) - (A46.get a0.Shares a1 a2))) > 0)) && (decide (((v3.1.Waits.getD ((IntKind.i64.wrap (((v3.1.Waits.length : Nat) : Int) - 1)).toNat) default).Amount) ≤ a3))) && (((v3.1.Waits.getD ((IntKind.i64.wrap (((v3.1.Waits.length : Nat) : Int) - 1)).toNat) default).V) == a2)) && (((v3.1.Waits.getD ((IntKind.i64.wrap (((v3.1.Waits.length : Nat) : Int) - 1)).toNat) default).D) == a1)) && (decide ((v3.1.Validators.Tokens.get a2) ≥ (a0.Validators.Tokens.get a2)))) = true → ((0 : Int) ≤ a2 ∧ (a2 : Int) < 6) ∧ True))
      (.leaf ((((((decide ((IntKind.i64.wrap ((A46.get v1.1.Shares a1 a2) - (A46.get a0.Shares a1 a2))) > 0)) && (decide (((v3.1.Waits.getD ((IntKind.i64.wrap (((v3.1.Waits.length : Nat) : Int) - 1)).toNat) default).Amount) ≤ a3))) && (((v3.1.Waits.getD ((IntKind.i64.wrap (((v3.1.Waits.length : Nat) : Int) - 1)).toNat) default).V) == a2)) && (((v3.1.Waits.getD ((IntKind.i64.wrap (((v3.1.Waits.length : Nat) : Int) - 1)).toNat) default).D) == a1)) && (decide ((v3.1.Validators.Tokens.get a2) ≥ (a0.Validators.Tokens.get a2)))) && ((v3.1.Validators.Shares.get a2) == (a0.Validators.Shares.get a2))))))))))))))))))
def sh_keep_StakeRound (a0 : Stake) (a1 : Int) (a2 : Int) (a3 : Int) : Option (Bool) := (T_keep_StakeRound a0 a1 a2 a3).run
def zr90 : LQ (Stake × Int × Int × Int) := (LQ.seq (Par.q (Par.ofLP stakeL)) (LQ.seq (Par.q intP) (LQ.seq (Par.q intP) (Par.q intP))))
def qr_keep_StakeRound : LQ (Bool) := (Par.q boolP)
def F_keep_StakeRound : SpecT := specF 0 zr90 4 [] (fun s => T_keep_StakeRound s.1 s.2.1 s.2.2.1 s.2.2.2) default qr_keep_StakeRound 1 []
theorem ok_keep_StakeRound : SpecOk Try.prog 10 (F_keep_StakeRound).spec :=
  specF_ok (A := za90) zh90 Facts.mix Try.func10 (c := zc90) (by kernel_rfl) (Lc := 0) trivial zr90 4 6 [] (fun s => T_keep_StakeRound s.1 s.2.1 s.2.2.1 s.2.2.2) default qr_keep_StakeRound 1 [] [] (by decide) (by kernel_rfl) (by rfl) (by decide) (by decide) (by rfl)
    (by rintro ⟨a0, a1, a2, a3⟩; kernel_rfl)

noncomputable def zc91 : Code := Try.f13.body.getD .skip
def zv91 : List (List Nat) := [[1, 2, 3, 4], [1, 2, 4, 9, 10, 11], [1, 2, 4, 9, 10, 30], [8], [1, 2, 4, 9, 10, 12], [1, 2, 4, 9, 10, 12, 37], [1, 2, 4, 9, 10, 12], [1, 2, 4, 9, 10, 12, 53], [8], [1, 2, 4, 9, 10, 55, 56, 57], [1, 2, 4, 9, 10, 55, 56, 57, 58], [1, 2, 4, 9, 10, 13, 14, 55, 56, 57], [1, 2, 4, 9, 10, 14, 15, 55, 56, 57], [1, 2, 4, 9, 10, 55, 56, 57, 88], [8], [1, 2, 4, 9, 10, 55, 56, 57], [8]]
noncomputable def zy91 : EnvT := ⟨Try.prog, lookT [(48, F_stake_Slash), (24, F_keep_stakes), (19, F_stake_Good)]⟩
theorem zh91 : (zy91).Ok := lookT_ok ⟨ok_stake_Slash, ok_keep_stakes, ok_stake_Good, trivial⟩
def T_keep_StakeSlashed_l1 (x0 : Int) (x1 : Int) (x2 : Int) (x3 : Int) (x4 : Stake) (x5 : Stake) : Tr ((Int × Int × Int × Int × Stake × Stake) ⊕ ((Bool) ⊕ (Int × Int × Int × Stake × Stake))) :=
  (.ite (decide (x3 < 6))
    (.guard (((x3 != x0) = true → ((0 : Int) ≤ x3 ∧ (x3 : Int) < 6) ∧ True))
    (.guard (((x3 != x0) = true → ((0 : Int) ≤ x3 ∧ (x3 : Int) < 6) ∧ True))
    (.ite ((x3 != x0) && (!(((x5.Validators.Tokens.get x3) == (x4.Validators.Tokens.get x3)) && (((x5.Validators.Shares.get x3) == (x4.Validators.Shares.get x3)) && (((x5.Validators.Lost.get x3) == (x4.Validators.Lost.get x3)) && (((x5.Validators.Jailed.get x3) == (x4.Validators.Jailed.get x3)) && (((x5.Validators.Dead.get x3) == (x4.Validators.Dead.get x3)) && true)))))))
      (.leaf (.inr (.inl false)))
      (.leaf (.inl (x0, x1, x2, IntKind.i64.wrap (x3 + 1), x4, x5))))))
    (.leaf (.inr (.inr (x0, x1, x2, x4, x5)))))
def sh_keep_StakeSlashed_l1 (x0 : Int) (x1 : Int) (x2 : Int) (x3 : Int) (x4 : Stake) (x5 : Stake) : Option ((Bool) ⊕ (Int × Int × Int × Stake × Stake)) := iter (fun s : Int × Int × Int × Int × Stake × Stake => (T_keep_StakeSlashed_l1 s.1 s.2.1 s.2.2.1 s.2.2.2.1 s.2.2.2.2.1 s.2.2.2.2.2).run) (x0, x1, x2, x3, x4, x5)
def za91a : Ann := ⟨[], [], [], zv91, []⟩
def zq91a : EndD (Int × Int × Int × Int × Stake × Stake) := ⟨(LQ.seq (Par.q intP) (LQ.seq (Par.q intP) (LQ.skip (LQ.const (.ptr 0 0)) (LQ.skip (LQ.const (.ptr 1 0)) (LQ.seq (Par.q intP) (LQ.seq (Par.q intP) (LQ.seq (LP.q stakeL) (LP.q stakeL)))))))), ⟨[1, 2, 4, 9, 10, 12], []⟩, [.cells 32 63, .cells 32 63]⟩
def zq91ae0 : EndD (Bool) := ⟨(Par.q boolP), ⟨[8], []⟩, []⟩
def zq91ae1 : EndD (Int × Int × Int × Stake × Stake) := ⟨(LQ.seq (Par.q intP) (LQ.seq (Par.q intP) (LQ.skip (LQ.const (.ptr 0 0)) (LQ.skip (LQ.const (.ptr 1 0)) (LQ.seq (Par.q intP) (LQ.seq (LP.q stakeL) (LP.q stakeL))))))), ⟨[1, 2, 4, 9, 10], []⟩, [.cells 32 63, .cells 32 63]⟩
def zl91a : St → Option LR := L2 125 6 0 zq91a .ret zq91ae0 (.exit 0) zq91ae1 (fun s => T_keep_StakeSlashed_l1 s.1 s.2.1 s.2.2.1 s.2.2.2.1 s.2.2.2.2.1 s.2.2.2.2.2)
theorem zk91a : PieceOk (zy91).env 0 (sub zc91 [0, 1, 0, 1, 1, 1]) zl91a :=
  loop2 (A := za91a) zh91 Facts.mix trivial (k := loopB (sub zc91 [0, 1, 0, 1, 1, 1])) (by kernel_rfl) rfl rfl (by rintro ⟨x0, x1, x2, x3, x4, x5⟩; kernel_rfl)
def T_keep_StakeSlashed_l2 (x0 : Int) (x1 : Int) (x2 : Int) (x3 : (List Wait)) (x4 : Int) (x5 : Int) (x6 : Stake) (x7 : Stake) : Tr ((Int × Int × Int × (List Wait) × Int × Int × Stake × Stake) ⊕ ((Bool) ⊕ (Int × Int × Stake × Stake))) :=
  (.ite (decide (x5 < x4))
    (.guard ((0 : Int) ≤ x5 ∧ x5 < ((Sl.len (.waits x3) : Nat) : Int))
    (.guard ((0 : Int) ≤ x5 ∧ x5 < ((Sl.len (.waits x7.Waits) : Nat) : Int))
    (.ite ((decide (((x7.Waits.getD x5.toNat default).Amount) > ((x3.getD x5.toNat default).Amount))) || (((((x3.getD x5.toNat default).V) != x0) || (decide (((x3.getD x5.toNat default).Height) < x1))) && (!(eqWait (x7.Waits.getD x5.toNat default) (x3.getD x5.toNat default)))))
      (.leaf (.inr (.inl false)))
      (.leaf (.inl (x0, x1, x2, x3, x4, IntKind.i64.wrap (x5 + 1), x6, x7))))))
    (.leaf (.inr (.inr (x0, x2, x6, x7)))))
def sh_keep_StakeSlashed_l2 (x0 : Int) (x1 : Int) (x2 : Int) (x3 : (List Wait)) (x4 : Int) (x5 : Int) (x6 : Stake) (x7 : Stake) : Option ((Bool) ⊕ (Int × Int × Stake × Stake)) := iter (fun s : Int × Int × Int × (List Wait) × Int × Int × Stake × Stake => (T_keep_StakeSlashed_l2 s.1 s.2.1 s.2.2.1 s.2.2.2.1 s.2.2.2.2.1 s.2.2.2.2.2.1 s.2.2.2.2.2.2.1 s.2.2.2.2.2.2.2).run) (x0, x1, x2, x3, x4, x5, x6, x7)
def za91b : Ann := ⟨[], [], [], zv91, []⟩
def zq91b : EndD (Int × Int × Int × (List Wait) × Int × Int × Stake × Stake) := ⟨(LQ.seq (Par.q intP) (LQ.seq (Par.q intP) (LQ.skip (LQ.const (.ptr 0 0)) (LQ.skip (LQ.const (.ptr 1 0)) (LQ.seq (Par.q intP) (LQ.seq (Par.q waitsP) (LQ.seq (Par.q intP) (LQ.seq (Par.q intP) (LQ.seq (LP.q stakeL) (LP.q stakeL)))))))))), ⟨[1, 2, 4, 9, 10, 55, 56, 57], [.pub 55, .nilsl 55 (.waits [])]⟩, [.cells 32 63, .cells 32 63]⟩
def zq91be0 : EndD (Bool) := ⟨(Par.q boolP), ⟨[8], []⟩, []⟩
def zq91be1 : EndD (Int × Int × Stake × Stake) := ⟨(LQ.seq (Par.q intP) (LQ.skip (LQ.const (.ptr 0 0)) (LQ.skip (LQ.const (.ptr 1 0)) (LQ.seq (Par.q intP) (LQ.seq (LP.q stakeL) (LP.q stakeL)))))), ⟨[1, 4, 9, 10], []⟩, [.cells 32 63, .cells 32 63]⟩
def zl91b : St → Option LR := L2 125 6 0 zq91b .ret zq91be0 (.exit 2) zq91be1 (fun s => T_keep_StakeSlashed_l2 s.1 s.2.1 s.2.2.1 s.2.2.2.1 s.2.2.2.2.1 s.2.2.2.2.2.1 s.2.2.2.2.2.2.1 s.2.2.2.2.2.2.2)
theorem zk91b : PieceOk (zy91).env 0 (sub zc91 [0, 1, 0, 1, 1, 1, 1]) zl91b :=
  loop2 (A := za91b) zh91 Facts.mix trivial (k := loopB (sub zc91 [0, 1, 0, 1, 1, 1, 1])) (by kernel_rfl) rfl rfl (by rintro ⟨x0, x1, x2, x3, x4, x5, x6, x7⟩; kernel_rfl)
def za91 : Ann := ⟨[([0, 1, 0, 1, 1, 1], zl91a), ([0, 1, 0, 1, 1, 1, 1], zl91b)], [], [], zv91, []⟩
def T_keep_StakeSlashed (a0 : Stake) (a1 : Int) (a2 : Int) (a3 : Int) : Tr (Bool) :=
  (.bind (sh_stake_Slash a0 a1 a2 a3) fun v1 =>
  (.guard (((v1.2.2 != 0) = false → ((sh_keep_stakes).isSome = true) ∧ True))
  (.ite ((v1.2.2 != 0) || (!((sh_keep_stakes).getD default)))
    (.guard (((v1.2.1 == 0) = true → ((sh_keep_stakes).isSome = true) ∧ True))
    (.leaf ((v1.2.1 == 0) && ((sh_keep_stakes).getD default))))
    (.two (sh_keep_StakeSlashed_l1 a1 a2 v1.2.1 0 a0 v1.1) (fun v2 =>
      (.leaf v2)) (fun v3 =>
      (.two (sh_keep_StakeSlashed_l2 v3.1 v3.2.1 v3.2.2.1 v3.2.2.2.1.Waits ((v3.2.2.2.1.Waits.length : Nat) : Int) 0 v3.2.2.2.1 v3.2.2.2.2) (fun v4 =>
        (.leaf v4)) (fun v5 =>
        (.guard ((((IntKind.i64.wrap (v5.2.2.2.Bank.Burnt - v5.2.2.1.Bank.Burnt)) == v5.2.1) = true → ((0 : Int) ≤ v5.1 ∧ (v5.1 : Int) < 6) ∧ True))
        (.guard ((((IntKind.i64.wrap (v5.2.2.2.Bank.Burnt - v5.2.2.1.Bank.Burnt)) == v5.2.1) = true → ((0 : Int) ≤ v5.1 ∧ (v5.1 : Int) < 6) ∧ True))
        (.guard ((((((IntKind.i64.wrap (v5.2.2.2.Bank.Burnt - v5.2.2.1.Bank.Burnt)) == v5.2.1) && ((IntKind.i64.wrap ((v5.2.2.2.Validators.Lost.get v5.1) - (v5.2.2.1.Validators.Lost.get v5.1))) == v5.2.1)) && (eqShares v5.2.2.2.Shares v5.2.2.1.Shares)) = true → ((sh_stake_Good v5.2.2.2).isSome = true) ∧ True))
        (.leaf (((((IntKind.i64.wrap (v5.2.2.2.Bank.Burnt - v5.2.2.1.Bank.Burnt)) == v5.2.1) && ((IntKind.i64.wrap ((v5.2.2.2.Validators.Lost.get v5.1) - (v5.2.2.1.Validators.Lost.get v5.1))) == v5.2.1)) && (eqShares v5.2.2.2.Shares v5.2.2.1.Shares)) && ((sh_stake_Good v5.2.2.2).getD default)))))))))))))
def sh_keep_StakeSlashed (a0 : Stake) (a1 : Int) (a2 : Int) (a3 : Int) : Option (Bool) := (T_keep_StakeSlashed a0 a1 a2 a3).run
def zr91 : LQ (Stake × Int × Int × Int) := (LQ.seq (Par.q (Par.ofLP stakeL)) (LQ.seq (Par.q intP) (LQ.seq (Par.q intP) (Par.q intP))))
def qr_keep_StakeSlashed : LQ (Bool) := (Par.q boolP)
def F_keep_StakeSlashed : SpecT := specF 0 zr91 4 [] (fun s => T_keep_StakeSlashed s.1 s.2.1 s.2.2.1 s.2.2.2) default qr_keep_StakeSlashed 1 []
theorem ok_keep_StakeSlashed : SpecOk Try.prog 13 (F_keep_StakeSlashed).spec :=
  specF_ok (A := za91) zh91 Facts.mix Try.func13 (c := zc91) (by kernel_rfl) (Lc := 0) ⟨zk91a, zk91b, trivial⟩ zr91 4 6 [] (fun s => T_keep_StakeSlashed s.1 s.2.1 s.2.2.1 s.2.2.2) default qr_keep_StakeSlashed 1 [] [] (by decide) (by kernel_rfl) (by rfl) (by decide) (by decide) (by rfl)
    (by rintro ⟨a0, a1, a2, a3⟩; kernel_rfl)

noncomputable def zc92 : Code := Try.f14.body.getD .skip
def zv92 : List (List Nat) := [[0], [0, 9], [2], [0, 3], [0, 3, 4], [0, 3, 4, 18], [0, 3, 4], [0, 3, 4, 5, 6], [0, 3, 4, 5, 75], [2], [0, 3, 4, 5, 7], [0, 3, 4, 5, 7, 77], [0, 3, 4, 5, 7], [0, 3, 4, 5, 7, 105], [2], [0, 3, 4], [2]]
noncomputable def zy92 : EnvT := ⟨Try.prog, lookT [(24, F_keep_stakes), (21, F_stake_New), (50, F_keep_follow), (19, F_stake_Good), (51, F_bank_Sum)]⟩
theorem zh92 : (zy92).Ok := lookT_ok ⟨ok_keep_stakes, ok_stake_New, ok_keep_follow, ok_stake_Good, ok_bank_Sum, trivial⟩
def T_keep_StakeGood_l1 (x0 : (List Order)) (x1 : Int) (x2 : Int) (x3 : Stake) (x4 : Stake) : Tr (((List Order) × Int × Int × Stake × Stake) ⊕ ((Bool) ⊕ ((List Order) × Int × Stake × Stake))) :=
  (.ite (decide (x2 < 6))
    (.guard ((0 : Int) ≤ x2 ∧ (x2 : Int) < 6)
    (.guard (((x3.Validators.Dead.get x2) = true → ((0 : Int) ≤ x2 ∧ (x2 : Int) < 6) ∧ True))
    (.guard ((((x3.Validators.Dead.get x2) && (!(x4.Validators.Dead.get x2))) = false → ((0 : Int) ≤ x2 ∧ (x2 : Int) < 6) ∧ True))
    (.guard ((((x3.Validators.Dead.get x2) && (!(x4.Validators.Dead.get x2))) = false → ((0 : Int) ≤ x2 ∧ (x2 : Int) < 6) ∧ True))
    (.ite (((x3.Validators.Dead.get x2) && (!(x4.Validators.Dead.get x2))) || (decide ((x4.Validators.Lost.get x2) < (x3.Validators.Lost.get x2))))
      (.leaf (.inr (.inl false)))
      (.leaf (.inl (x0, x1, IntKind.i64.wrap (x2 + 1), x3, x4))))))))
    (.leaf (.inr (.inr (x0, x1, x3, x4)))))
def sh_keep_StakeGood_l1 (x0 : (List Order)) (x1 : Int) (x2 : Int) (x3 : Stake) (x4 : Stake) : Option ((Bool) ⊕ ((List Order) × Int × Stake × Stake)) := iter (fun s : (List Order) × Int × Int × Stake × Stake => (T_keep_StakeGood_l1 s.1 s.2.1 s.2.2.1 s.2.2.2.1 s.2.2.2.2).run) (x0, x1, x2, x3, x4)
def za92a : Ann := ⟨[], [], [], zv92, []⟩
def zq92a : EndD ((List Order) × Int × Int × Stake × Stake) := ⟨(LQ.seq (Par.q ordersP) (LQ.skip (LQ.const (.ptr 0 0)) (LQ.seq (Par.q intP) (LQ.skip (LQ.const (.ptr 1 0)) (LQ.seq (Par.q intP) (LQ.seq (LP.q stakeL) (LP.q stakeL))))))), ⟨[0, 3, 4, 5, 7], [.pub 0, .nilsl 0 (.orders [])]⟩, [.cells 32 63, .cells 32 63]⟩
def zq92ae0 : EndD (Bool) := ⟨(Par.q boolP), ⟨[2], []⟩, []⟩
def zq92ae1 : EndD ((List Order) × Int × Stake × Stake) := ⟨(LQ.seq (Par.q ordersP) (LQ.skip (LQ.const (.ptr 0 0)) (LQ.seq (Par.q intP) (LQ.skip (LQ.const (.ptr 1 0)) (LQ.seq (LP.q stakeL) (LP.q stakeL)))))), ⟨[0, 3, 4, 5], [.pub 0, .nilsl 0 (.orders [])]⟩, [.cells 32 63, .cells 32 63]⟩
def zl92a : St → Option LR := L2 107 4 0 zq92a .ret zq92ae0 (.exit 2) zq92ae1 (fun s => T_keep_StakeGood_l1 s.1 s.2.1 s.2.2.1 s.2.2.2.1 s.2.2.2.2)
theorem zk92a : PieceOk (zy92).env 0 (sub zc92 [0, 1, 0, 1, 1, 0, 0, 1, 0, 0, 1, 0, 1, 1, 1]) zl92a :=
  loop2 (A := za92a) zh92 Facts.mix trivial (k := loopB (sub zc92 [0, 1, 0, 1, 1, 0, 0, 1, 0, 0, 1, 0, 1, 1, 1])) (by kernel_rfl) rfl rfl (by rintro ⟨x0, x1, x2, x3, x4⟩; kernel_rfl)
def T_keep_StakeGood_l2 (x0 : (List Order)) (x1 : Int) (x2 : Stake) : Tr (((List Order) × Int × Stake) ⊕ ((Bool) ⊕ (Unit))) :=
  (.ite ((decide (x1 < ((x0.length : Nat) : Int))) && (decide (x1 < 80)))
    (.guard ((0 : Int) ≤ x1 ∧ x1 < ((Sl.len (.orders x0) : Nat) : Int))
    (.guard ((sh_keep_follow x2 (x0.getD x1.toNat default)).isSome = true)
    (.guard (((((((sh_keep_follow x2 (x0.getD x1.toNat default)).getD default).2) != 0) && (((!(eqBank ((((sh_keep_follow x2 (x0.getD x1.toNat default)).getD default).1).Bank) x2.Bank)) || (!(eqVals ((((sh_keep_follow x2 (x0.getD x1.toNat default)).getD default).1).Validators) x2.Validators))) || (!(eqShares ((((sh_keep_follow x2 (x0.getD x1.toNat default)).getD default).1).Shares) x2.Shares)))) = false → ((sh_stake_Good (((sh_keep_follow x2 (x0.getD x1.toNat default)).getD default).1)).isSome = true) ∧ True))
    (.guard ((((((((sh_keep_follow x2 (x0.getD x1.toNat default)).getD default).2) != 0) && (((!(eqBank ((((sh_keep_follow x2 (x0.getD x1.toNat default)).getD default).1).Bank) x2.Bank)) || (!(eqVals ((((sh_keep_follow x2 (x0.getD x1.toNat default)).getD default).1).Validators) x2.Validators))) || (!(eqShares ((((sh_keep_follow x2 (x0.getD x1.toNat default)).getD default).1).Shares) x2.Shares)))) || (!((sh_stake_Good (((sh_keep_follow x2 (x0.getD x1.toNat default)).getD default).1)).getD default))) = false → ((sh_bank_Sum ((((sh_keep_follow x2 (x0.getD x1.toNat default)).getD default).1).Bank)).isSome = true) ∧ True))
    (.guard ((((((((sh_keep_follow x2 (x0.getD x1.toNat default)).getD default).2) != 0) && (((!(eqBank ((((sh_keep_follow x2 (x0.getD x1.toNat default)).getD default).1).Bank) x2.Bank)) || (!(eqVals ((((sh_keep_follow x2 (x0.getD x1.toNat default)).getD default).1).Validators) x2.Validators))) || (!(eqShares ((((sh_keep_follow x2 (x0.getD x1.toNat default)).getD default).1).Shares) x2.Shares)))) || (!((sh_stake_Good (((sh_keep_follow x2 (x0.getD x1.toNat default)).getD default).1)).getD default))) = false → ((sh_bank_Sum x2.Bank).isSome = true) ∧ True))
    (.ite ((((((((sh_keep_follow x2 (x0.getD x1.toNat default)).getD default).2) != 0) && (((!(eqBank ((((sh_keep_follow x2 (x0.getD x1.toNat default)).getD default).1).Bank) x2.Bank)) || (!(eqVals ((((sh_keep_follow x2 (x0.getD x1.toNat default)).getD default).1).Validators) x2.Validators))) || (!(eqShares ((((sh_keep_follow x2 (x0.getD x1.toNat default)).getD default).1).Shares) x2.Shares)))) || (!((sh_stake_Good (((sh_keep_follow x2 (x0.getD x1.toNat default)).getD default).1)).getD default))) || (((sh_bank_Sum ((((sh_keep_follow x2 (x0.getD x1.toNat default)).getD default).1).Bank)).getD default) != ((sh_bank_Sum x2.Bank).getD default))) || (decide ((((((sh_keep_follow x2 (x0.getD x1.toNat default)).getD default).1).Bank).Burnt) < x2.Bank.Burnt)))
      (.leaf (.inr (.inl false)))
      (.two (sh_keep_StakeGood_l1 x0 x1 0 x2 (((sh_keep_follow x2 (x0.getD x1.toNat default)).getD default).1)) (fun v3 =>
        (.leaf (.inr (.inl v3)))) (fun v4 =>
        (.leaf (.inl (v4.1, IntKind.i64.wrap (v4.2.1 + 1), v4.2.2.2)))))))))))
    (.leaf (.inr (.inr ()))))
def sh_keep_StakeGood_l2 (x0 : (List Order)) (x1 : Int) (x2 : Stake) : Option ((Bool) ⊕ (Unit)) := iter (fun s : (List Order) × Int × Stake => (T_keep_StakeGood_l2 s.1 s.2.1 s.2.2).run) (x0, x1, x2)
def za92b : Ann := ⟨[([0, 1, 0, 1, 1, 0, 0, 1, 0, 0, 1, 0, 1, 1, 1], zl92a)], [], [], zv92, []⟩
def zq92b : EndD ((List Order) × Int × Stake) := ⟨(LQ.seq (Par.q ordersP) (LQ.skip (LQ.const (.ptr 0 0)) (LQ.seq (Par.q intP) (LP.q stakeL)))), ⟨[0, 3, 4], [.pub 0, .nilsl 0 (.orders [])]⟩, [.cells 32 63]⟩
def zq92be0 : EndD (Bool) := ⟨(Par.q boolP), ⟨[2], []⟩, []⟩
def zq92be1 : EndD (Unit) := ⟨LQ.nil, ⟨[], []⟩, []⟩
def zl92b : St → Option LR := L2 107 4 0 zq92b .ret zq92be0 (.exit 0) zq92be1 (fun s => T_keep_StakeGood_l2 s.1 s.2.1 s.2.2)
theorem zk92b : PieceOk (zy92).env 0 (sub zc92 [0, 1, 0, 1, 1, 1]) zl92b :=
  loop2 (A := za92b) zh92 Facts.mix ⟨zk92a, trivial⟩ (k := loopB (sub zc92 [0, 1, 0, 1, 1, 1])) (by kernel_rfl) rfl rfl (by rintro ⟨x0, x1, x2⟩; kernel_rfl)
def za92 : Ann := ⟨[([0, 1, 0, 1, 1, 1], zl92b)], [], [], zv92, []⟩
def T_keep_StakeGood (a0 : (List Order)) : Tr (Bool) :=
  (.bind (sh_keep_stakes) fun v1 =>
  (.ite (!v1)
    (.leaf false)
    (.bind (sh_stake_New) fun v2 =>
    (.two (sh_keep_StakeGood_l2 a0 0 v2) (fun v5 =>
      (.leaf v5)) (fun v6 =>
      (.leaf true))))))
def sh_keep_StakeGood (a0 : (List Order)) : Option (Bool) := (T_keep_StakeGood a0).run
def zr92 : LQ ((List Order)) := (Par.q ordersP)
def qr_keep_StakeGood : LQ (Bool) := (Par.q boolP)
def F_keep_StakeGood : SpecT := specF 0 zr92 1 [] (fun s => T_keep_StakeGood s) default qr_keep_StakeGood 1 []
theorem ok_keep_StakeGood : SpecOk Try.prog 14 (F_keep_StakeGood).spec :=
  specF_ok (A := za92) zh92 Facts.mix Try.func14 (c := zc92) (by kernel_rfl) (Lc := 0) ⟨zk92b, trivial⟩ zr92 1 4 [] (fun s => T_keep_StakeGood s) default qr_keep_StakeGood 1 [] [] (by decide) (by kernel_rfl) (by rfl) (by decide) (by decide) (by rfl)
    (by rintro a0; kernel_rfl)

end
end Go.Proofs.Ytbpehnghffljiaa.Ab
