/-
  The functions, each by its tree.
-/
import Derived.Test.YtknbejjfejdppaaGreatFacts
import Derived.Test.YtknbejjfejdppaaGreatAbStructs
import Derived.Test.YtknbejjfejdppaaGreatAbFun
import Derived.Test.YtknbejjfejdppaaGreatFRatio
import Derived.Test.YtknbejjfejdppaaGreatFBank
import Derived.Test.YtknbejjfejdppaaGreatFStakeB
namespace Go.Proofs.YtknbejjfejdppaaGreat.Ab
open Go Go.RowKit
set_option maxRecDepth 100000
set_option linter.unusedVariables false
set_option linter.unusedSimpArgs false
noncomputable section

noncomputable def zc91 : Code := Tryz.f95.body.getD .skip
def zv91 : List (List Nat) := [[0], [0]]
noncomputable def zy91 : EnvT := ⟨Tryz.prog, lookT [(138, F_ref_NewBank)]⟩
theorem zh91 : (zy91).Ok := lookT_ok ⟨ok_ref_NewBank, trivial⟩
def za91 : Ann := ⟨[], [], [], zv91, []⟩
def T_ref_NewStake  : Tr (Stake) :=
  (.bind (sh_ref_NewBank) fun v1 =>
  (.leaf (⟨v1, (default : Validators), (⟨(⟨0, 0, 0, 0, 0, 0⟩ : (A6 Int)), (⟨0, 0, 0, 0, 0, 0⟩ : (A6 Int)), (⟨0, 0, 0, 0, 0, 0⟩ : (A6 Int)), (⟨0, 0, 0, 0, 0, 0⟩ : (A6 Int))⟩ : (A4 (A6 Int))), [], 1⟩ : Stake)))
def sh_ref_NewStake  : Option (Stake) := (T_ref_NewStake ).run
def zr91 : LQ (Unit) := LQ.nil
def qr_ref_NewStake : LQ (Stake) := (Par.q (Par.ofLP stakeL))
def F_ref_NewStake : SpecT := specF 0 zr91 0 [] (fun s => T_ref_NewStake ) default qr_ref_NewStake 1 []
theorem ok_ref_NewStake : SpecOk Tryz.prog 95 (F_ref_NewStake).spec :=
  specF_ok (A := za91) zh91 Facts.mix Tryz.func95 (c := zc91) (by kernel_rfl) (Lc := 0) trivial zr91 0 3 [] (fun s => T_ref_NewStake ) default qr_ref_NewStake 1 [] [.pubB 0] (by decide) (by kernel_rfl) (by rfl) (by decide) (by decide) (by rfl)
    (by rintro _; kernel_rfl)

noncomputable def zc92 : Code := Tryz.f40.body.getD .skip
def zv92 : List (List Nat) := [[1, 2], [1, 2], [2]]
noncomputable def zy92 : EnvT := ⟨Tryz.prog, lookT []⟩
theorem zh92 : (zy92).Ok := lookT_ok trivial
def za92 : Ann := ⟨[], [], [], zv92, []⟩
def T_ref_CopyStake (a0 : Stake) : Tr (Stake) :=
  (.guard ((0 + Sl.len (.waits a0.Waits)) * 64 ≤ 140737488355328)
  (.leaf a0))
def sh_ref_CopyStake (a0 : Stake) : Option (Stake) := (T_ref_CopyStake a0).run
def zr92 : LQ (Stake) := (Par.q (Par.ofLP stakeL))
def qr_ref_CopyStake : LQ (Stake) := (Par.q (Par.ofLP stakeL))
def F_ref_CopyStake : SpecT := specF 0 zr92 1 [] (fun s => T_ref_CopyStake s) default qr_ref_CopyStake 1 []
theorem ok_ref_CopyStake : SpecOk Tryz.prog 40 (F_ref_CopyStake).spec :=
  specF_ok (A := za92) zh92 Facts.mix Tryz.func40 (c := zc92) (by kernel_rfl) (Lc := 0) trivial zr92 1 5 [] (fun s => T_ref_CopyStake s) default qr_ref_CopyStake 1 [] [.pubB 2] (by decide) (by kernel_rfl) (by rfl) (by decide) (by decide) (by rfl)
    (by rintro a0; kernel_rfl)

noncomputable def zc93 : Code := Tryz.f40.body.getD .skip
def zv93 : List (List Nat) := [[1, 2], [1, 2], [2]]
noncomputable def zy93 : EnvT := ⟨Tryz.prog, lookT []⟩
theorem zh93 : (zy93).Ok := lookT_ok trivial
def za93 : Ann := ⟨[], [], [], zv93, []⟩
def T_ref_CopyStake_o (a0 : Stake) : Tr (Stake) :=
  (.guard ((0 + Sl.len (.waits a0.Waits)) * 64 ≤ 140737488355328)
  (.leaf a0))
def sh_ref_CopyStake_o (a0 : Stake) : Option (Stake) := (T_ref_CopyStake_o a0).run
def zr93 : LQ (Stake) := (Par.q (Par.ofLP stakeL))
def qr_ref_CopyStake_o : LQ (Stake) := (LQ.map (LQ.seq (LQ.agg (LQ.seq (LP.q bankL) (LQ.seq (LP.q validatorsL) (LQ.seq (LP.q (a4L (a6L (LP.one intP)))) (LQ.skip (LQ.const (.own 0)) (Par.q intP)))))) (Par.q waitsP)) (fun x : (Bank × Validators × (A4 (A6 Int)) × Int) × (List Wait) => ((⟨x.1.1, x.1.2.1, x.1.2.2.1, x.2, x.1.2.2.2⟩ : Stake) : Stake)) (fun y => ((y.Bank, y.Validators, y.Shares, y.Next), y.Waits)) (fun _ => rfl))
def F_ref_CopyStake_o : SpecT := specF 0 zr93 1 [] (fun s => T_ref_CopyStake_o s) default qr_ref_CopyStake_o 1 [.rows 81]
theorem ok_ref_CopyStake_o : SpecOk Tryz.prog 40 (F_ref_CopyStake_o).spec :=
  specF_ok (A := za93) zh93 Facts.mix Tryz.func40 (c := zc93) (by kernel_rfl) (Lc := 0) trivial zr93 1 5 [] (fun s => T_ref_CopyStake_o s) default qr_ref_CopyStake_o 1 [.rows 81] [] (by decide) (by kernel_rfl) (by rfl) (by decide) (by decide) (by rfl)
    (by rintro a0; kernel_rfl)

noncomputable def zc94 : Code := Tryz.f56.body.getD .skip
def zv94 : List (List Nat) := [[2, 3], [2, 3, 40], [4], [2, 3, 43, 44], [2, 3, 43, 44, 45], [2, 3, 5, 43, 44], [2, 3, 43, 44, 57], [4], [2, 3, 43, 44], [4]]
noncomputable def zy94 : EnvT := ⟨Tryz.prog, lookT []⟩
theorem zh94 : (zy94).Ok := lookT_ok trivial
def T_ref_SameStake_l1 (x0 : Int) (x1 : Int) (x2 : Stake) (x3 : Stake) : Tr ((Int × Int × Stake × Stake) ⊕ ((Bool) ⊕ (Unit))) :=
  (.ite (decide (x1 < x0))
    (.guard ((0 : Int) ≤ x1 ∧ x1 < ((Sl.len (.waits x2.Waits) : Nat) : Int))
    (.guard ((0 : Int) ≤ x1 ∧ x1 < ((Sl.len (.waits x3.Waits) : Nat) : Int))
    (.ite (!(eqWait (x2.Waits.getD x1.toNat default) (x3.Waits.getD x1.toNat default)))
      (.leaf (.inr (.inl false)))
      (.leaf (.inl (x0, IntKind.i64.wrap (x1 + 1), x2, x3))))))
    (.leaf (.inr (.inr ()))))
def sh_ref_SameStake_l1 (x0 : Int) (x1 : Int) (x2 : Stake) (x3 : Stake) : Option ((Bool) ⊕ (Unit)) := iter (fun s : Int × Int × Stake × Stake => (T_ref_SameStake_l1 s.1 s.2.1 s.2.2.1 s.2.2.2).run) (x0, x1, x2, x3)
def za94a : Ann := ⟨[], [], [], zv94, []⟩
def zq94a : EndD (Int × Int × Stake × Stake) := ⟨(LQ.skip (LQ.const (.ptr 0 0)) (LQ.skip (LQ.const (.ptr 1 0)) (LQ.seq (Par.q intP) (LQ.seq (Par.q intP) (LQ.seq (LP.q stakeL) (LP.q stakeL)))))), ⟨[2, 3, 43, 44], []⟩, [.cells 32 63, .cells 32 63]⟩
def zq94ae0 : EndD (Bool) := ⟨(Par.q boolP), ⟨[4], []⟩, []⟩
def zq94ae1 : EndD (Unit) := ⟨LQ.nil, ⟨[], []⟩, []⟩
def zl94a : St → Option LR := L2 59 4 0 zq94a .ret zq94ae0 (.exit 0) zq94ae1 (fun s => T_ref_SameStake_l1 s.1 s.2.1 s.2.2.1 s.2.2.2)
theorem zk94a : PieceOk (zy94).env 0 (sub zc94 [0, 1, 0, 1, 1]) zl94a :=
  loop2 (A := za94a) zh94 Facts.mix trivial (k := loopB (sub zc94 [0, 1, 0, 1, 1])) (by kernel_rfl) rfl rfl (by rintro ⟨x0, x1, x2, x3⟩; kernel_rfl)
def za94 : Ann := ⟨[([0, 1, 0, 1, 1], zl94a)], [], [], zv94, []⟩
def T_ref_SameStake (a0 : Stake) (a1 : Stake) : Tr (Bool) :=
  (.ite (((((!(eqBank a0.Bank a1.Bank)) || (!(eqVals a0.Validators a1.Validators))) || (!(eqShares a0.Shares a1.Shares))) || (a0.Next != a1.Next)) || (((a0.Waits.length : Nat) : Int) != ((a1.Waits.length : Nat) : Int)))
    (.leaf false)
    (.two (sh_ref_SameStake_l1 ((a0.Waits.length : Nat) : Int) 0 a0 a1) (fun v1 =>
      (.leaf v1)) (fun v2 =>
      (.leaf true))))
def sh_ref_SameStake (a0 : Stake) (a1 : Stake) : Option (Bool) := (T_ref_SameStake a0 a1).run
def zr94 : LQ (Stake × Stake) := (LQ.seq (Par.q (Par.ofLP stakeL)) (Par.q (Par.ofLP stakeL)))
def qr_ref_SameStake : LQ (Bool) := (Par.q boolP)
def F_ref_SameStake : SpecT := specF 0 zr94 2 [] (fun s => T_ref_SameStake s.1 s.2) default qr_ref_SameStake 1 []
theorem ok_ref_SameStake : SpecOk Tryz.prog 56 (F_ref_SameStake).spec :=
  specF_ok (A := za94) zh94 Facts.mix Tryz.func56 (c := zc94) (by kernel_rfl) (Lc := 0) ⟨zk94a, trivial⟩ zr94 2 4 [] (fun s => T_ref_SameStake s.1 s.2) default qr_ref_SameStake 1 [] [] (by decide) (by kernel_rfl) (by rfl) (by decide) (by decide) (by rfl)
    (by rintro ⟨a0, a1⟩; kernel_rfl)

noncomputable def zc95 : Code := Tryz.f87.body.getD .skip
def zv95 : List (List Nat) := [[1], [1, 33], [2], [1, 3, 4], [1, 3, 4, 35, 36], [1, 3, 4, 35, 36, 37], [1, 3, 4, 5, 6, 35, 36], [1, 3, 4, 5, 6, 7, 35, 36], [1, 3, 4, 5, 6, 7, 35, 36, 41, 42], [1, 3, 4, 5, 6, 7, 35, 36, 41, 42, 43], [1, 3, 4, 5, 6, 7, 9, 35, 36, 41, 42], [1, 3, 4, 5, 6, 7, 9, 35, 36, 41, 42, 49], [2], [1, 3, 4, 5, 6, 7, 35, 36, 41, 42], [1, 3, 4, 5, 6, 7, 35, 36, 41, 42], [1, 3, 4, 6, 35, 36, 95], [2], [1, 3, 4, 6, 35, 36], [1, 3, 4, 35, 36], [1, 3, 4, 35, 36], [1, 3, 4, 10, 11], [1, 3, 4, 10, 11, 106, 107, 108], [1, 3, 4, 10, 11, 106, 107, 108, 109], [1, 3, 4, 10, 11, 13, 106, 107, 108], [1, 3, 4, 10, 13, 106, 107, 108, 158], [2], [1, 3, 4, 10, 11, 13, 106, 107, 108], [1, 3, 4, 10, 11, 106, 107, 108], [1, 3, 4, 10, 11, 106, 107, 108], [2]]
noncomputable def zy95 : EnvT := ⟨Tryz.prog, lookT [(132, F_ref_GoodBank), (133, F_ref_In)]⟩
theorem zh95 : (zy95).Ok := lookT_ok ⟨ok_ref_GoodBank, ok_ref_In, trivial⟩
def T_ref_GoodStake_l1 (x0 : Int) (x1 : Int) (x2 : Int) (x3 : Int) (x4 : (A6 Validator)) (x5 : Int) (x6 : (A4 (A6 Int))) (x7 : Int) (x8 : Stake) (x9 : Validator) : Tr ((Int × Int × Int × Int × (A6 Validator) × Int × (A4 (A6 Int)) × Int × Stake × Validator) ⊕ ((Bool) ⊕ (Int × Int × Int × (A6 Validator) × Int × Stake × Validator))) :=
  (.ite (decide (x7 < 4))
    (.guard ((0 : Int) ≤ x7 ∧ (x7 : Int) < 4)
    (.guard ((0 : Int) ≤ x2 ∧ (x2 : Int) < 6)
    (.bind (sh_ref_In (A6.get ⟨A4.get ⟨x6.x0.x0, x6.x1.x0, x6.x2.x0, x6.x3.x0⟩ x7, A4.get ⟨x6.x0.x1, x6.x1.x1, x6.x2.x1, x6.x3.x1⟩ x7, A4.get ⟨x6.x0.x2, x6.x1.x2, x6.x2.x2, x6.x3.x2⟩ x7, A4.get ⟨x6.x0.x3, x6.x1.x3, x6.x2.x3, x6.x3.x3⟩ x7, A4.get ⟨x6.x0.x4, x6.x1.x4, x6.x2.x4, x6.x3.x4⟩ x7, A4.get ⟨x6.x0.x5, x6.x1.x5, x6.x2.x5, x6.x3.x5⟩ x7⟩ x2)) fun v2 =>
    (.ite (!v2)
      (.leaf (.inr (.inl false)))
      (.guard ((0 : Int) ≤ x2 ∧ (x2 : Int) < 6)
      (.leaf (.inl (x0, x1, x2, IntKind.i64.wrap (x3 + (A6.get ⟨A4.get ⟨x6.x0.x0, x6.x1.x0, x6.x2.x0, x6.x3.x0⟩ x7, A4.get ⟨x6.x0.x1, x6.x1.x1, x6.x2.x1, x6.x3.x1⟩ x7, A4.get ⟨x6.x0.x2, x6.x1.x2, x6.x2.x2, x6.x3.x2⟩ x7, A4.get ⟨x6.x0.x3, x6.x1.x3, x6.x2.x3, x6.x3.x3⟩ x7, A4.get ⟨x6.x0.x4, x6.x1.x4, x6.x2.x4, x6.x3.x4⟩ x7, A4.get ⟨x6.x0.x5, x6.x1.x5, x6.x2.x5, x6.x3.x5⟩ x7⟩ x2)), x4, x5, x6, IntKind.i64.wrap (x7 + 1), x8, x9))))))))
    (.leaf (.inr (.inr (x0, x1, x3, x4, x5, x8, x9)))))
def sh_ref_GoodStake_l1 (x0 : Int) (x1 : Int) (x2 : Int) (x3 : Int) (x4 : (A6 Validator)) (x5 : Int) (x6 : (A4 (A6 Int))) (x7 : Int) (x8 : Stake) (x9 : Validator) : Option ((Bool) ⊕ (Int × Int × Int × (A6 Validator) × Int × Stake × Validator)) := iter (fun s : Int × Int × Int × Int × (A6 Validator) × Int × (A4 (A6 Int)) × Int × Stake × Validator => (T_ref_GoodStake_l1 s.1 s.2.1 s.2.2.1 s.2.2.2.1 s.2.2.2.2.1 s.2.2.2.2.2.1 s.2.2.2.2.2.2.1 s.2.2.2.2.2.2.2.1 s.2.2.2.2.2.2.2.2.1 s.2.2.2.2.2.2.2.2.2).run) (x0, x1, x2, x3, x4, x5, x6, x7, x8, x9)
def za95a : Ann := ⟨[], [], [], zv95, []⟩
def zq95a : EndD (Int × Int × Int × Int × (A6 Validator) × Int × (A4 (A6 Int)) × Int × Stake × Validator) := ⟨(LQ.skip (LQ.const (.ptr 0 0)) (LQ.seq (Par.q intP) (LQ.seq (Par.q intP) (LQ.seq (Par.q intP) (LQ.skip (LQ.const (.ptr 1 0)) (LQ.seq (Par.q intP) (LQ.seq (Par.q (Par.ofLP (a6L validatorL))) (LQ.seq (Par.q intP) (LQ.seq (Par.q (Par.ofLP (a4L (a6L (LP.one intP))))) (LQ.seq (Par.q intP) (LQ.seq (LP.q stakeL) (LP.q validatorL)))))))))))), ⟨[1, 3, 4, 5, 6, 7, 35, 36, 41, 42], []⟩, [.cells 32 63, .cells 26 5]⟩
def zq95ae0 : EndD (Bool) := ⟨(Par.q boolP), ⟨[2], []⟩, []⟩
def zq95ae1 : EndD (Int × Int × Int × (A6 Validator) × Int × Stake × Validator) := ⟨(LQ.skip (LQ.const (.ptr 0 0)) (LQ.seq (Par.q intP) (LQ.seq (Par.q intP) (LQ.skip (LQ.const (.ptr 1 0)) (LQ.seq (Par.q intP) (LQ.seq (Par.q (Par.ofLP (a6L validatorL))) (LQ.seq (Par.q intP) (LQ.seq (LP.q stakeL) (LP.q validatorL))))))))), ⟨[1, 3, 4, 6, 7, 35, 36], []⟩, [.cells 32 63, .cells 26 5]⟩
def zl95a : St → Option LR := L2 185 5 0 zq95a .ret zq95ae0 (.exit 2) zq95ae1 (fun s => T_ref_GoodStake_l1 s.1 s.2.1 s.2.2.1 s.2.2.2.1 s.2.2.2.2.1 s.2.2.2.2.2.1 s.2.2.2.2.2.2.1 s.2.2.2.2.2.2.2.1 s.2.2.2.2.2.2.2.2.1 s.2.2.2.2.2.2.2.2.2)
theorem zk95a : PieceOk (zy95).env 0 (sub zc95 [0, 1, 0, 1, 1, 0, 0, 1, 1, 0, 0, 1, 0, 1, 1, 1]) zl95a :=
  loop2 (A := za95a) zh95 Facts.mix trivial (k := loopB (sub zc95 [0, 1, 0, 1, 1, 0, 0, 1, 1, 0, 0, 1, 0, 1, 1, 1])) (by kernel_rfl) rfl rfl (by rintro ⟨x0, x1, x2, x3, x4, x5, x6, x7, x8, x9⟩; kernel_rfl)
def T_ref_GoodStake_l2 (x0 : Int) (x1 : Int) (x2 : (A6 Validator)) (x3 : Int) (x4 : Stake) : Tr ((Int × Int × (A6 Validator) × Int × Stake) ⊕ ((Bool) ⊕ (Int × Int × Stake))) :=
  (.ite (decide (x3 < 6))
    (.guard ((0 : Int) ≤ x3 ∧ (x3 : Int) < 6)
    (.two (sh_ref_GoodStake_l1 x0 x1 x3 0 x2 x3 x4.Shares 0 x4 (⟨A6.get ⟨x2.x0.Tokens, x2.x1.Tokens, x2.x2.Tokens, x2.x3.Tokens, x2.x4.Tokens, x2.x5.Tokens⟩ x3, A6.get ⟨x2.x0.Shares, x2.x1.Shares, x2.x2.Shares, x2.x3.Shares, x2.x4.Shares, x2.x5.Shares⟩ x3, A6.get ⟨x2.x0.Lost, x2.x1.Lost, x2.x2.Lost, x2.x3.Lost, x2.x4.Lost, x2.x5.Lost⟩ x3, A6.get ⟨x2.x0.Jailed, x2.x1.Jailed, x2.x2.Jailed, x2.x3.Jailed, x2.x4.Jailed, x2.x5.Jailed⟩ x3, A6.get ⟨x2.x0.Dead, x2.x1.Dead, x2.x2.Dead, x2.x3.Dead, x2.x4.Dead, x2.x5.Dead⟩ x3⟩ : Validator)) (fun v3 =>
      (.leaf (.inr (.inl v3)))) (fun v4 =>
      (.bind (sh_ref_In v4.2.2.2.2.2.2.Tokens) fun v5 =>
      (.guard (((!v5) = false → ((sh_ref_In v4.2.2.2.2.2.2.Shares).isSome = true) ∧ True))
      (.guard ((((!v5) || (!((sh_ref_In v4.2.2.2.2.2.2.Shares).getD default))) = false → ((sh_ref_In v4.2.2.2.2.2.2.Lost).isSome = true) ∧ True))
      (.ite ((((((!v5) || (!((sh_ref_In v4.2.2.2.2.2.2.Shares).getD default))) || (!((sh_ref_In v4.2.2.2.2.2.2.Lost).getD default))) || (v4.2.2.1 != v4.2.2.2.2.2.2.Shares)) || ((v4.2.2.1 == 0) && (v4.2.2.2.2.2.2.Tokens != 0))) || (v4.2.2.2.2.2.2.Dead && (!v4.2.2.2.2.2.2.Jailed)))
        (.leaf (.inr (.inl false)))
        (.leaf (.inl (IntKind.i64.wrap (v4.1 + v4.2.2.2.2.2.2.Tokens), IntKind.i64.wrap (v4.2.1 + v4.2.2.2.2.2.2.Lost), v4.2.2.2.1, IntKind.i64.wrap (v4.2.2.2.2.1 + 1), v4.2.2.2.2.2.1))))))))))
    (.leaf (.inr (.inr (x0, x1, (⟨x4.Bank, x4.Validators, x4.Shares, x4.Waits, x4.Next⟩ : Stake))))))
def sh_ref_GoodStake_l2 (x0 : Int) (x1 : Int) (x2 : (A6 Validator)) (x3 : Int) (x4 : Stake) : Option ((Bool) ⊕ (Int × Int × Stake)) := iter (fun s : Int × Int × (A6 Validator) × Int × Stake => (T_ref_GoodStake_l2 s.1 s.2.1 s.2.2.1 s.2.2.2.1 s.2.2.2.2).run) (x0, x1, x2, x3, x4)
def za95b : Ann := ⟨[([0, 1, 0, 1, 1, 0, 0, 1, 1, 0, 0, 1, 0, 1, 1, 1], zl95a)], [], [], zv95, []⟩
def zq95b : EndD (Int × Int × (A6 Validator) × Int × Stake) := ⟨(LQ.skip (LQ.const (.ptr 0 0)) (LQ.seq (Par.q intP) (LQ.seq (Par.q intP) (LQ.seq (Par.q (Par.ofLP (a6L validatorL))) (LQ.seq (Par.q intP) (LP.q stakeL)))))), ⟨[1, 3, 4, 35, 36], []⟩, [.cells 32 63]⟩
def zq95be0 : EndD (Bool) := ⟨(Par.q boolP), ⟨[2], []⟩, []⟩
def zq95be1 : EndD (Int × Int × Stake) := ⟨(LQ.skip (LQ.const (.ptr 0 0)) (LQ.seq (Par.q intP) (LQ.seq (Par.q intP) (LP.q stakeL)))), ⟨[1, 3, 4], []⟩, [.cells 32 63]⟩
def zl95b : St → Option LR := L2 185 5 0 zq95b .ret zq95be0 (.exit 0) zq95be1 (fun s => T_ref_GoodStake_l2 s.1 s.2.1 s.2.2.1 s.2.2.2.1 s.2.2.2.2)
theorem zk95b : PieceOk (zy95).env 0 (sub zc95 [0, 1, 0, 1, 1, 1]) zl95b :=
  loop2 (A := za95b) zh95 Facts.mix ⟨zk95a, trivial⟩ (k := loopB (sub zc95 [0, 1, 0, 1, 1, 1])) (by kernel_rfl) rfl rfl (by rintro ⟨x0, x1, x2, x3, x4⟩; kernel_rfl)
def T_ref_GoodStake_l3 (x0 : Int) (x1 : Int) (x2 : Int) (x3 : Int) (x4 : (List Wait)) (x5 : Int) (x6 : Int) (x7 : Stake) : Tr ((Int × Int × Int × Int × (List Wait) × Int × Int × Stake) ⊕ ((Bool) ⊕ (Int × Int × Int × Stake))) :=
  (.ite (decide (x6 < x5))
    (.guard ((0 : Int) ≤ x6 ∧ x6 < ((Sl.len (.waits x4) : Nat) : Int))
    (.guard ((((((((decide (((x4.getD x6.toNat default).Number) ≤ x3)) || (decide (((x4.getD x6.toNat default).Number) ≥ x7.Next))) || (decide (((x4.getD x6.toNat default).D) < 0))) || (decide (((x4.getD x6.toNat default).D) > 3))) || (decide (((x4.getD x6.toNat default).V) < 0))) || (decide (((x4.getD x6.toNat default).V) > 5))) = false → ((sh_ref_In ((x4.getD x6.toNat default).Amount)).isSome = true) ∧ True))
    (.ite (((((((((decide (((x4.getD x6.toNat default).Number) ≤ x3)) || (decide (((x4.getD x6.toNat default).Number) ≥ x7.Next))) || (decide (((x4.getD x6.toNat default).D) < 0))) || (decide (((x4.getD x6.toNat default).D) > 3))) || (decide (((x4.getD x6.toNat default).V) < 0))) || (decide (((x4.getD x6.toNat default).V) > 5))) || (!((sh_ref_In ((x4.getD x6.toNat default).Amount)).getD default))) || (decide (((x4.getD x6.toNat default).Height) < 0))) || (decide (((x4.getD x6.toNat default).Due) < 0)))
      (.leaf (.inr (.inl false)))
      (.leaf (.inl (x0, x1, IntKind.i64.wrap (x2 + ((x4.getD x6.toNat default).Amount)), (x4.getD x6.toNat default).Number, x4, x5, IntKind.i64.wrap (x6 + 1), x7))))))
    (.leaf (.inr (.inr (x0, x1, x2, x7)))))
def sh_ref_GoodStake_l3 (x0 : Int) (x1 : Int) (x2 : Int) (x3 : Int) (x4 : (List Wait)) (x5 : Int) (x6 : Int) (x7 : Stake) : Option ((Bool) ⊕ (Int × Int × Int × Stake)) := iter (fun s : Int × Int × Int × Int × (List Wait) × Int × Int × Stake => (T_ref_GoodStake_l3 s.1 s.2.1 s.2.2.1 s.2.2.2.1 s.2.2.2.2.1 s.2.2.2.2.2.1 s.2.2.2.2.2.2.1 s.2.2.2.2.2.2.2).run) (x0, x1, x2, x3, x4, x5, x6, x7)
def za95c : Ann := ⟨[], [], [], zv95, []⟩
def zq95c : EndD (Int × Int × Int × Int × (List Wait) × Int × Int × Stake) := ⟨(LQ.skip (LQ.const (.ptr 0 0)) (LQ.seq (Par.q intP) (LQ.seq (Par.q intP) (LQ.seq (Par.q intP) (LQ.seq (Par.q intP) (LQ.seq (Par.q waitsP) (LQ.seq (Par.q intP) (LQ.seq (Par.q intP) (LP.q stakeL))))))))), ⟨[1, 3, 4, 10, 11, 106, 107, 108], [.pub 106, .nilsl 106 (.waits [])]⟩, [.cells 32 63]⟩
def zq95ce0 : EndD (Bool) := ⟨(Par.q boolP), ⟨[2], []⟩, []⟩
def zq95ce1 : EndD (Int × Int × Int × Stake) := ⟨(LQ.skip (LQ.const (.ptr 0 0)) (LQ.seq (Par.q intP) (LQ.seq (Par.q intP) (LQ.seq (Par.q intP) (LP.q stakeL))))), ⟨[1, 3, 4, 10], []⟩, [.cells 32 63]⟩
def zl95c : St → Option LR := L2 185 5 0 zq95c .ret zq95ce0 (.exit 4) zq95ce1 (fun s => T_ref_GoodStake_l3 s.1 s.2.1 s.2.2.1 s.2.2.2.1 s.2.2.2.2.1 s.2.2.2.2.2.1 s.2.2.2.2.2.2.1 s.2.2.2.2.2.2.2)
theorem zk95c : PieceOk (zy95).env 0 (sub zc95 [0, 1, 0, 1, 1, 1, 1, 1]) zl95c :=
  loop2 (A := za95c) zh95 Facts.mix trivial (k := loopB (sub zc95 [0, 1, 0, 1, 1, 1, 1, 1])) (by kernel_rfl) rfl rfl (by rintro ⟨x0, x1, x2, x3, x4, x5, x6, x7⟩; kernel_rfl)
def za95 : Ann := ⟨[([0, 1, 0, 1, 1, 1], zl95b), ([0, 1, 0, 1, 1, 1, 1, 1], zl95c)], [], [], zv95, []⟩
def T_ref_GoodStake (a0 : Stake) : Tr (Bool) :=
  (.bind (sh_ref_GoodBank a0.Bank) fun v1 =>
  (.ite ((((!v1) || (decide (a0.Next < 1))) || (decide (a0.Next > 1125899906842624))) || (decide (((a0.Waits.length : Nat) : Int) > 60)))
    (.leaf false)
    (.two (sh_ref_GoodStake_l2 0 0 (⟨(⟨a0.Validators.Tokens.x0, a0.Validators.Shares.x0, a0.Validators.Lost.x0, a0.Validators.Jailed.x0, a0.Validators.Dead.x0⟩ : Validator), (⟨a0.Validators.Tokens.x1, a0.Validators.Shares.x1, a0.Validators.Lost.x1, a0.Validators.Jailed.x1, a0.Validators.Dead.x1⟩ : Validator), (⟨a0.Validators.Tokens.x2, a0.Validators.Shares.x2, a0.Validators.Lost.x2, a0.Validators.Jailed.x2, a0.Validators.Dead.x2⟩ : Validator), (⟨a0.Validators.Tokens.x3, a0.Validators.Shares.x3, a0.Validators.Lost.x3, a0.Validators.Jailed.x3, a0.Validators.Dead.x3⟩ : Validator), (⟨a0.Validators.Tokens.x4, a0.Validators.Shares.x4, a0.Validators.Lost.x4, a0.Validators.Jailed.x4, a0.Validators.Dead.x4⟩ : Validator), (⟨a0.Validators.Tokens.x5, a0.Validators.Shares.x5, a0.Validators.Lost.x5, a0.Validators.Jailed.x5, a0.Validators.Dead.x5⟩ : Validator)⟩ : (A6 Validator)) 0 a0) (fun v6 =>
      (.leaf v6)) (fun v7 =>
      (.two (sh_ref_GoodStake_l3 v7.1 v7.2.1 0 0 v7.2.2.Waits ((v7.2.2.Waits.length : Nat) : Int) 0 v7.2.2) (fun v8 =>
        (.leaf v8)) (fun v9 =>
        (.leaf (((v9.1 == v9.2.2.2.Bank.Bonded) && (v9.2.2.1 == v9.2.2.2.Bank.Waiting)) && (v9.2.1 == v9.2.2.2.Bank.Burnt)))))))))
def sh_ref_GoodStake (a0 : Stake) : Option (Bool) := (T_ref_GoodStake a0).run
def zr95 : LQ (Stake) := (Par.q (Par.ofLP stakeL))
def qr_ref_GoodStake : LQ (Bool) := (Par.q boolP)
def F_ref_GoodStake : SpecT := specF 0 zr95 1 [] (fun s => T_ref_GoodStake s) default qr_ref_GoodStake 1 []
theorem ok_ref_GoodStake : SpecOk Tryz.prog 87 (F_ref_GoodStake).spec :=
  specF_ok (A := za95) zh95 Facts.mix Tryz.func87 (c := zc95) (by kernel_rfl) (Lc := 0) ⟨zk95b, zk95c, trivial⟩ zr95 1 5 [] (fun s => T_ref_GoodStake s) default qr_ref_GoodStake 1 [] [] (by decide) (by kernel_rfl) (by rfl) (by decide) (by decide) (by rfl)
    (by rintro a0; kernel_rfl)

noncomputable def zc96 : Code := Tryz.f112.body.getD .skip
def zv96 : List (List Nat) := [[1, 2, 3], [1, 2, 9], [6], [23], [6], [6]]
noncomputable def zy96 : EnvT := ⟨Tryz.prog, lookT [(87, F_ref_GoodStake)]⟩
theorem zh96 : (zy96).Ok := lookT_ok ⟨ok_ref_GoodStake, trivial⟩
def za96 : Ann := ⟨[], [], [], zv96, []⟩
def T_ref_some (a0 : Stake) (a1 : Int) (a2 : Int) : Tr (Int) :=
  (.bind (sh_ref_GoodStake a0) fun v1 =>
  (.ite (!v1)
    (.leaf 2)
    (.ite ((((decide (a1 < 0)) || (decide (a1 > 3))) || (decide (a2 < 0))) || (decide (a2 > 5)))
      (.leaf 4)
      (.leaf 0))))
def sh_ref_some (a0 : Stake) (a1 : Int) (a2 : Int) : Option (Int) := (T_ref_some a0 a1 a2).run
def zr96 : LQ (Stake × Int × Int) := (LQ.seq (Par.q (Par.ofLP stakeL)) (LQ.seq (Par.q intP) (Par.q intP)))
def qr_ref_some : LQ (Int) := (Par.q intP)
def F_ref_some : SpecT := specF 0 zr96 3 [] (fun s => T_ref_some s.1 s.2.1 s.2.2) default qr_ref_some 1 []
theorem ok_ref_some : SpecOk Tryz.prog 112 (F_ref_some).spec :=
  specF_ok (A := za96) zh96 Facts.mix Tryz.func112 (c := zc96) (by kernel_rfl) (Lc := 0) trivial zr96 3 3 [] (fun s => T_ref_some s.1 s.2.1 s.2.2) default qr_ref_some 1 [] [] (by decide) (by kernel_rfl) (by rfl) (by decide) (by decide) (by rfl)
    (by rintro ⟨a0, a1, a2⟩; kernel_rfl)

noncomputable def zc97 : Code := Tryz.f86.body.getD .skip
def zv97 : List (List Nat) := [[1, 2, 3, 4, 8], [1, 2, 3, 4, 8, 10], [1, 2, 3, 4, 8, 10, 22], [8, 9], [1, 2, 3, 4, 8, 11], [1, 2, 3, 4, 8, 11, 30], [8, 9], [1, 2, 3, 4, 8, 11, 37], [8, 9], [1, 2, 3, 4, 8, 11, 12], [1, 2, 3, 4, 8, 11, 12, 42], [1, 2, 3, 4, 8, 11, 45], [8, 9], [1, 2, 3, 4, 8, 11], [1, 2, 3, 4, 8, 11, 12, 13], [1, 2, 3, 4, 8, 12, 64], [8, 9], [1, 2, 3, 4, 8, 12, 67], [8, 9], [1, 2, 3, 4, 8, 12, 14, 15], [1, 2, 3, 4, 8, 12, 14, 15, 78], [8, 9], [1, 2, 3, 8, 12, 14, 16], [1, 2, 3, 8, 12, 16], [1, 2, 8, 12, 16], [1, 2, 8, 12, 16], [8, 16], [8, 9]]
noncomputable def zy97 : EnvT := ⟨Tryz.prog, lookT [(112, F_ref_some), (130, F_ref_MulDiv), (131, F_ref_Bond), (40, F_ref_CopyStake)]⟩
theorem zh97 : (zy97).Ok := lookT_ok ⟨ok_ref_some, ok_ref_MulDiv, ok_ref_Bond, ok_ref_CopyStake, trivial⟩
def za97 : Ann := ⟨[], [], [], zv97, []⟩
def T_ref_Delegate (a0 : Stake) (a1 : Int) (a2 : Int) (a3 : Int) : Tr (Stake × Int) :=
  (.bind (sh_ref_some a0 a1 a2) fun v1 =>
  (.ite (v1 != 0)
    (.leaf (a0, v1))
    (.guard ((0 : Int) ≤ a2 ∧ (a2 : Int) < 6)
    (.ite (a0.Validators.Dead.get a2)
      (.leaf (a0, 15))
      (.ite ((decide (a3 < 1)) || (decide (a3 > 1125899906842624)))
        (.leaf (a0, 2))
        (.ite ((a0.Validators.Shares.get a2) != 0)
          (.ite ((a0.Validators.Tokens.get a2) == 0)
            (.leaf (a0, 8))
            (.bind (sh_ref_MulDiv a3 (a0.Validators.Shares.get a2) (a0.Validators.Tokens.get a2)) fun v2 =>
            (.ite ((v2.2 != 0) || (decide ((IntKind.i64.wrap ((a0.Validators.Shares.get a2) + v2.1)) > 1125899906842624)))
              (.leaf (a0, 6))
              (.ite (decide (v2.1 < 1))
                (.leaf (a0, 8))
                (.bind (sh_ref_Bond a0.Bank a1 a3) fun v3 =>
                (.ite (v3.2 != 0)
                  (.leaf (a0, v3.2))
                  (.bind (sh_ref_CopyStake a0) fun v4 =>
                  (.guard ((0 : Int) ≤ a2 ∧ (a2 : Int) < 6)
                  (.guard ((0 : Int) ≤ a2 ∧ (a2 : Int) < 6)
                  (.guard ((0 : Int) ≤ a2 ∧ (a2 : Int) < 6)
                  (.guard ((0 : Int) ≤ a2 ∧ (a2 : Int) < 6)
                  (.guard ((0 : Int) ≤ a1 ∧ (a1 : Int) < 4)
                  (.guard ((0 : Int) ≤ a2 ∧ (a2 : Int) < 6)
                  (.guard ((0 : Int) ≤ a1 ∧ (a1 : Int) < 4)
                  (.guard ((0 : Int) ≤ a2 ∧ (a2 : Int) < 6)
                  (.leaf ((⟨v3.1, { (v4.Validators : Validators) with Tokens := (v4.Validators.Tokens.set a2 (IntKind.i64.wrap ((v4.Validators.Tokens.get a2) + a3))), Shares := (v4.Validators.Shares.set a2 (IntKind.i64.wrap ((v4.Validators.Shares.get a2) + v2.1))) }, (A46.set v4.Shares a1 a2 (IntKind.i64.wrap ((A46.get v4.Shares a1 a2) + v2.1))), v4.Waits, v4.Next⟩ : Stake), 0)))))))))))))))))
          (.ite (decide (a3 < 1))
            (.leaf (a0, 8))
            (.bind (sh_ref_Bond a0.Bank a1 a3) fun v5 =>
            (.ite (v5.2 != 0)
              (.leaf (a0, v5.2))
              (.bind (sh_ref_CopyStake a0) fun v6 =>
              (.guard ((0 : Int) ≤ a2 ∧ (a2 : Int) < 6)
              (.guard ((0 : Int) ≤ a2 ∧ (a2 : Int) < 6)
              (.guard ((0 : Int) ≤ a2 ∧ (a2 : Int) < 6)
              (.guard ((0 : Int) ≤ a2 ∧ (a2 : Int) < 6)
              (.guard ((0 : Int) ≤ a1 ∧ (a1 : Int) < 4)
              (.guard ((0 : Int) ≤ a2 ∧ (a2 : Int) < 6)
              (.guard ((0 : Int) ≤ a1 ∧ (a1 : Int) < 4)
              (.guard ((0 : Int) ≤ a2 ∧ (a2 : Int) < 6)
              (.leaf ((⟨v5.1, { (v6.Validators : Validators) with Tokens := (v6.Validators.Tokens.set a2 (IntKind.i64.wrap ((v6.Validators.Tokens.get a2) + a3))), Shares := (v6.Validators.Shares.set a2 (IntKind.i64.wrap ((v6.Validators.Shares.get a2) + a3))) }, (A46.set v6.Shares a1 a2 (IntKind.i64.wrap ((A46.get v6.Shares a1 a2) + a3))), v6.Waits, v6.Next⟩ : Stake), 0))))))))))))))))))))
def sh_ref_Delegate (a0 : Stake) (a1 : Int) (a2 : Int) (a3 : Int) : Option (Stake × Int) := (T_ref_Delegate a0 a1 a2 a3).run
def zr97 : LQ (Stake × Int × Int × Int) := (LQ.seq (Par.q (Par.ofLP stakeL)) (LQ.seq (Par.q intP) (LQ.seq (Par.q intP) (Par.q intP))))
def qr_ref_Delegate : LQ (Stake × Int) := (LQ.seq (Par.q (Par.ofLP stakeL)) (Par.q intP))
def F_ref_Delegate : SpecT := specF 0 zr97 4 [] (fun s => T_ref_Delegate s.1 s.2.1 s.2.2.1 s.2.2.2) default qr_ref_Delegate 2 []
theorem ok_ref_Delegate : SpecOk Tryz.prog 86 (F_ref_Delegate).spec :=
  specF_ok (A := za97) zh97 Facts.mix Tryz.func86 (c := zc97) (by kernel_rfl) (Lc := 0) trivial zr97 4 7 [] (fun s => T_ref_Delegate s.1 s.2.1 s.2.2.1 s.2.2.2) default qr_ref_Delegate 2 [] [.pubB 8] (by decide) (by kernel_rfl) (by rfl) (by decide) (by decide) (by rfl)
    (by rintro ⟨a0, a1, a2, a3⟩; kernel_rfl)

noncomputable def zc104 : Code := Tryz.f107.body.getD .skip
def zv104 : List (List Nat) := [[0, 2], [0, 2, 3], [0, 2, 3, 4], [0, 2, 3, 4, 9], [0, 2, 3, 4], [0, 2, 3, 4, 25], [0, 2, 3, 4], [2]]
noncomputable def zy104 : EnvT := ⟨Tryz.prog, lookT []⟩
theorem zh104 : (zy104).Ok := lookT_ok trivial
def T_ref_row_l1 (x0 : (List Power)) (x1 : Int) (x2 : (A6 Int)) (x3 : (A6 Int)) : Tr (((List Power) × Int × (A6 Int) × (A6 Int)) ⊕ ((A6 Int) × (A6 Int))) :=
  (.ite (decide (x1 ≥ 0))
    (.guard ((0 : Int) ≤ x1 ∧ x1 < ((Sl.len (.powers x0) : Nat) : Int))
    (.guard (((decide (((x0.getD x1.toNat default).V) ≥ 0)) = true → ((0 : Int) ≤ x1 ∧ x1 < ((Sl.len (.powers x0) : Nat) : Int)) ∧ True))
    (.ite ((decide (((x0.getD x1.toNat default).V) ≥ 0)) && (decide (((x0.getD x1.toNat default).V) < 6)))
      (.guard ((0 : Int) ≤ x1 ∧ x1 < ((Sl.len (.powers x0) : Nat) : Int))
      (.guard ((0 : Int) ≤ x1 ∧ x1 < ((Sl.len (.powers x0) : Nat) : Int))
      (.guard ((0 : Int) ≤ ((x0.getD x1.toNat default).V) ∧ (((x0.getD x1.toNat default).V) : Int) < 6)
      (.leaf (.inl (x0, IntKind.i64.wrap (x1 - 1), x2, (x3.set ((x0.getD x1.toNat default).V) ((x0.getD x1.toNat default).N))))))))
      (.leaf (.inl (x0, IntKind.i64.wrap (x1 - 1), x2, x3))))))
    (.leaf (.inr (x2, x3))))
def sh_ref_row_l1 (x0 : (List Power)) (x1 : Int) (x2 : (A6 Int)) (x3 : (A6 Int)) : Option ((A6 Int) × (A6 Int)) := iter (fun s : (List Power) × Int × (A6 Int) × (A6 Int) => (T_ref_row_l1 s.1 s.2.1 s.2.2.1 s.2.2.2).run) (x0, x1, x2, x3)
def za104a : Ann := ⟨[], [], [], zv104, []⟩
def zq104a : EndD ((List Power) × Int × (A6 Int) × (A6 Int)) := ⟨(LQ.seq (Par.q powersP) (LQ.skip (LQ.const (.ptr 0 0)) (LQ.skip (LQ.const (.ptr 1 0)) (LQ.seq (Par.q intP) (LQ.seq (LP.q (a6L (LP.one intP))) (LP.q (a6L (LP.one intP)))))))), ⟨[0, 2, 3, 4], [.pub 0, .nilsl 0 (.powers [])]⟩, [.cells 28 6, .cells 28 6]⟩
def zq104ae0 : EndD ((A6 Int) × (A6 Int)) := ⟨(LQ.skip (LQ.const (.ptr 0 0)) (LQ.skip (LQ.const (.ptr 1 0)) (LQ.seq (LP.q (a6L (LP.one intP))) (LP.q (a6L (LP.one intP)))))), ⟨[2, 3], []⟩, [.cells 28 6, .cells 28 6]⟩
def zl104a : St → Option LR := L1 38 4 0 zq104a (.exit 0) zq104ae0 (fun s => T_ref_row_l1 s.1 s.2.1 s.2.2.1 s.2.2.2)
theorem zk104a : PieceOk (zy104).env 0 (sub zc104 [0, 1, 0, 1, 1]) zl104a :=
  loop1 (A := za104a) zh104 Facts.mix trivial (k := loopB (sub zc104 [0, 1, 0, 1, 1])) (by kernel_rfl) rfl (by rintro ⟨x0, x1, x2, x3⟩; kernel_rfl)
def za104 : Ann := ⟨[([0, 1, 0, 1, 1], zl104a)], [], [], zv104, []⟩
def T_ref_row (a0 : (List Power)) : Tr ((A6 Int)) :=
  (.bind (sh_ref_row_l1 a0 (IntKind.i64.wrap (((a0.length : Nat) : Int) - 1)) (⟨0, 0, 0, 0, 0, 0⟩ : (A6 Int)) (⟨0, 0, 0, 0, 0, 0⟩ : (A6 Int))) fun v1 =>
  (.leaf v1.2))
def sh_ref_row (a0 : (List Power)) : Option ((A6 Int)) := (T_ref_row a0).run
def zr104 : LQ ((List Power)) := (Par.q powersP)
def qr_ref_row : LQ ((A6 Int)) := (Par.q (Par.ofLP (a6L (LP.one intP))))
def F_ref_row : SpecT := specF 0 zr104 1 [] (fun s => T_ref_row s) default qr_ref_row 1 []
theorem ok_ref_row : SpecOk Tryz.prog 107 (F_ref_row).spec :=
  specF_ok (A := za104) zh104 Facts.mix Tryz.func107 (c := zc104) (by kernel_rfl) (Lc := 0) ⟨zk104a, trivial⟩ zr104 1 4 [] (fun s => T_ref_row s) default qr_ref_row 1 [] [] (by decide) (by kernel_rfl) (by rfl) (by decide) (by decide) (by rfl)
    (by rintro a0; kernel_rfl)

noncomputable def zc105 : Code := Tryz.f53.body.getD .skip
def zv105 : List (List Nat) := [[0, 1], [5, 6], [5, 6, 7], [5, 6, 7, 13], [5, 6, 7, 13, 14], [5, 6, 7, 8, 13], [5, 6, 7, 8, 13, 22], [5, 6, 7, 13], [5, 6, 7, 13], [4]]
noncomputable def zy105 : EnvT := ⟨Tryz.prog, lookT [(107, F_ref_row)]⟩
theorem zh105 : (zy105).Ok := lookT_ok ⟨ok_ref_row, trivial⟩
def T_ref_Diff_l1 (x0 : Int) (x1 : (A6 Int)) (x2 : (A6 Int)) (x3 : (List Power)) : Tr ((Int × (A6 Int) × (A6 Int) × (List Power)) ⊕ ((List Power))) :=
  (.ite (decide (x0 < 6))
    (.guard ((0 : Int) ≤ x0 ∧ (x0 : Int) < 6)
    (.guard ((0 : Int) ≤ x0 ∧ (x0 : Int) < 6)
    (.ite ((x1.get x0) != (x2.get x0))
      (.guard ((0 : Int) ≤ x0 ∧ (x0 : Int) < 6)
      (.guard ((Sl.len (.powers x3) + Sl.len (.powers [(⟨x0, x2.get x0⟩ : Power)])) * 16 ≤ 140737488355328)
      (.leaf (.inl (IntKind.i64.wrap (x0 + 1), x1, x2, x3 ++ [(⟨x0, x2.get x0⟩ : Power)])))))
      (.leaf (.inl (IntKind.i64.wrap (x0 + 1), x1, x2, x3))))))
    (.leaf (.inr x3)))
def sh_ref_Diff_l1 (x0 : Int) (x1 : (A6 Int)) (x2 : (A6 Int)) (x3 : (List Power)) : Option ((List Power)) := iter (fun s : Int × (A6 Int) × (A6 Int) × (List Power) => (T_ref_Diff_l1 s.1 s.2.1 s.2.2.1 s.2.2.2).run) (x0, x1, x2, x3)
def za105a : Ann := ⟨[], [], [], zv105, []⟩
def zq105a : EndD (Int × (A6 Int) × (A6 Int) × (List Power)) := ⟨(LQ.skip (LQ.const (.ptr 0 0)) (LQ.skip (LQ.const (.ptr 1 0)) (LQ.skip (LQ.const (.own 2)) (LQ.seq (Par.q intP) (LQ.seq (LP.q (a6L (LP.one intP))) (LQ.seq (LP.q (a6L (LP.one intP))) (Par.q powersP))))))), ⟨[5, 6, 7, 13], [.nilown 7 116 (.powers [])]⟩, [.cells 28 6, .cells 28 6, .rows 116]⟩
def zq105ae0 : EndD ((List Power)) := ⟨(LQ.skip (LQ.const (.own 0)) (Par.q powersP)), ⟨[7], [.nilown 7 116 (.powers [])]⟩, [.rows 116]⟩
def zl105a : St → Option LR := L1 33 7 0 zq105a (.exit 0) zq105ae0 (fun s => T_ref_Diff_l1 s.1 s.2.1 s.2.2.1 s.2.2.2)
theorem zk105a : PieceOk (zy105).env 0 (sub zc105 [0, 1, 0, 1, 1, 1]) zl105a :=
  loop1 (A := za105a) zh105 Facts.mix trivial (k := loopB (sub zc105 [0, 1, 0, 1, 1, 1])) (by kernel_rfl) rfl (by rintro ⟨x0, x1, x2, x3⟩; kernel_rfl)
def za105 : Ann := ⟨[([0, 1, 0, 1, 1, 1], zl105a)], [], [], zv105, []⟩
def T_ref_Diff (a0 : (List Power)) (a1 : (List Power)) : Tr ((List Power)) :=
  (.bind (sh_ref_row a0) fun v1 =>
  (.bind (sh_ref_row a1) fun v2 =>
  (.bind (sh_ref_Diff_l1 0 v1 v2 []) fun v3 =>
  (.leaf v3))))
def sh_ref_Diff (a0 : (List Power)) (a1 : (List Power)) : Option ((List Power)) := (T_ref_Diff a0 a1).run
def zr105 : LQ ((List Power) × (List Power)) := (LQ.seq (Par.q powersP) (Par.q powersP))
def qr_ref_Diff : LQ ((List Power)) := (Par.q powersP)
def F_ref_Diff : SpecT := specF 0 zr105 2 [] (fun s => T_ref_Diff s.1 s.2) default qr_ref_Diff 1 []
theorem ok_ref_Diff : SpecOk Tryz.prog 53 (F_ref_Diff).spec :=
  specF_ok (A := za105) zh105 Facts.mix Tryz.func53 (c := zc105) (by kernel_rfl) (Lc := 0) ⟨zk105a, trivial⟩ zr105 2 7 [] (fun s => T_ref_Diff s.1 s.2) default qr_ref_Diff 1 [] [.pub 4] (by decide) (by kernel_rfl) (by rfl) (by decide) (by decide) (by rfl)
    (by rintro ⟨a0, a1⟩; kernel_rfl)

noncomputable def zc106 : Code := Tryz.f49.body.getD .skip
def zv106 : List (List Nat) := [[0], [0, 3], [3, 6, 7, 8], [3, 6, 7, 8, 9], [3, 5, 6, 7, 8], [3, 6, 7, 8], [3, 6, 7, 8], [2]]
noncomputable def zy106 : EnvT := ⟨Tryz.prog, lookT []⟩
theorem zh106 : (zy106).Ok := lookT_ok trivial
def T_ref_AllOf_l1 (x0 : Int) (x1 : (List Power)) (x2 : Int) (x3 : Int) : Tr ((Int × (List Power) × Int × Int) ⊕ (Int)) :=
  (.ite (decide (x3 < x2))
    (.guard ((0 : Int) ≤ x3 ∧ x3 < ((Sl.len (.powers x1) : Nat) : Int))
    (.leaf (.inl (IntKind.i64.wrap (x0 + ((x1.getD x3.toNat default).N)), x1, x2, IntKind.i64.wrap (x3 + 1)))))
    (.leaf (.inr x0)))
def sh_ref_AllOf_l1 (x0 : Int) (x1 : (List Power)) (x2 : Int) (x3 : Int) : Option (Int) := iter (fun s : Int × (List Power) × Int × Int => (T_ref_AllOf_l1 s.1 s.2.1 s.2.2.1 s.2.2.2).run) (x0, x1, x2, x3)
def za106a : Ann := ⟨[], [], [], zv106, []⟩
def zq106a : EndD (Int × (List Power) × Int × Int) := ⟨(LQ.seq (Par.q intP) (LQ.seq (Par.q powersP) (LQ.seq (Par.q intP) (Par.q intP)))), ⟨[3, 6, 7, 8], [.pub 6, .nilsl 6 (.powers [])]⟩, []⟩
def zq106ae0 : EndD (Int) := ⟨(Par.q intP), ⟨[3], []⟩, []⟩
def zl106a : St → Option LR := L1 18 3 0 zq106a (.exit 0) zq106ae0 (fun s => T_ref_AllOf_l1 s.1 s.2.1 s.2.2.1 s.2.2.2)
theorem zk106a : PieceOk (zy106).env 0 (sub zc106 [0, 1, 0, 1, 1]) zl106a :=
  loop1 (A := za106a) zh106 Facts.mix trivial (k := loopB (sub zc106 [0, 1, 0, 1, 1])) (by kernel_rfl) rfl (by rintro ⟨x0, x1, x2, x3⟩; kernel_rfl)
def za106 : Ann := ⟨[([0, 1, 0, 1, 1], zl106a)], [], [], zv106, []⟩
def T_ref_AllOf (a0 : (List Power)) : Tr (Int) :=
  (.bind (sh_ref_AllOf_l1 0 a0 ((a0.length : Nat) : Int) 0) fun v1 =>
  (.leaf v1))
def sh_ref_AllOf (a0 : (List Power)) : Option (Int) := (T_ref_AllOf a0).run
def zr106 : LQ ((List Power)) := (Par.q powersP)
def qr_ref_AllOf : LQ (Int) := (Par.q intP)
def F_ref_AllOf : SpecT := specF 0 zr106 1 [] (fun s => T_ref_AllOf s) default qr_ref_AllOf 1 []
theorem ok_ref_AllOf : SpecOk Tryz.prog 49 (F_ref_AllOf).spec :=
  specF_ok (A := za106) zh106 Facts.mix Tryz.func49 (c := zc106) (by kernel_rfl) (Lc := 0) ⟨zk106a, trivial⟩ zr106 1 3 [] (fun s => T_ref_AllOf s) default qr_ref_AllOf 1 [] [] (by decide) (by kernel_rfl) (by rfl) (by decide) (by decide) (by rfl)
    (by rintro a0; kernel_rfl)

end
end Go.Proofs.YtknbejjfejdppaaGreat.Ab
