/-
  The functions, each by its tree.
-/
import Derived.Test.YtknbejjfejdppaaGreatFacts
import Derived.Test.YtknbejjfejdppaaGreatAbStructs
import Derived.Test.YtknbejjfejdppaaGreatAbFun
import Derived.Test.YtknbejjfejdppaaGreatFRatio
import Derived.Test.YtknbejjfejdppaaGreatFBank
import Derived.Test.YtknbejjfejdppaaGreatFStakeB
namespace Go.Proofs.YtknbejjfejdppaaGreat.Ab
open Go Go.RowKit
set_option maxRecDepth 100000
set_option linter.unusedVariables false
set_option linter.unusedSimpArgs false
noncomputable section

noncomputable def zc93 : Code := Tryz.f40.body.getD .skip
def zv93 : List (List Nat) := [[1, 2], [1, 2], [2]]
noncomputable def zy93 : EnvT := ⟨Tryz.prog, lookT []⟩
theorem zh93 : (zy93).Ok := lookT_ok trivial
def za93 : Ann := ⟨[], [], [], zv93, []⟩
def T_ref_CopyStake_o (a0 : Stake) : Tr (Stake) :=
  (.guard ((0 + Sl.len (.waits a0.Waits)) * 64 ≤ 140737488355328)
  (.leaf a0))
def sh_ref_CopyStake_o (a0 : Stake) : Option (Stake) := (T_ref_CopyStake_o a0).run
def zr93 : LQ (Stake) := (Par.q (Par.ofLP stakeL))
def qr_ref_CopyStake_o : LQ (Stake) := (LQ.map (LQ.seq (LQ.agg (LQ.seq (LP.q bankL) (LQ.seq (LP.q validatorsL) (LQ.seq (LP.q (a4L (a6L (LP.one intP)))) (LQ.skip (LQ.const (.own 0)) (Par.q intP)))))) (Par.q waitsP)) (fun x : (Bank × Validators × (A4 (A6 Int)) × Int) × (List Wait) => ((⟨x.1.1, x.1.2.1, x.1.2.2.1, x.2, x.1.2.2.2⟩ : Stake) : Stake)) (fun y => ((y.Bank, y.Validators, y.Shares, y.Next), y.Waits)) (fun _ => rfl))
def F_ref_CopyStake_o : SpecT := specF 0 zr93 1 [] (fun s => T_ref_CopyStake_o s) default qr_ref_CopyStake_o 1 [.rows 81]
theorem ok_ref_CopyStake_o : SpecOk Tryz.prog 40 (F_ref_CopyStake_o).spec :=
  specF_ok (A := za93) zh93 Facts.mix Tryz.func40 (c := zc93) (by kernel_rfl) (Lc := 0) trivial zr93 1 5 [] (fun s => T_ref_CopyStake_o s) default qr_ref_CopyStake_o 1 [.rows 81] [] (by decide) (by kernel_rfl) (by rfl) (by decide) (by decide) (by rfl)
    (by rintro a0; kernel_rfl)

noncomputable def zc94 : Code := Tryz.f56.body.getD .skip
def zv94 : List (List Nat) := [[2, 3], [2, 3, 40], [4], [2, 3, 43, 44], [2, 3, 43, 44, 45], [2, 3, 5, 43, 44], [2, 3, 43, 44, 57], [4], [2, 3, 43, 44], [4]]
noncomputable def zy94 : EnvT := ⟨Tryz.prog, lookT []⟩
theorem zh94 : (zy94).Ok := lookT_ok trivial
def T_ref_SameStake_l1 (x0 : Int) (x1 : Int) (x2 : Stake) (x3 : Stake) : Tr ((Int × Int × Stake × Stake) ⊕ ((Bool) ⊕ (Unit))) :=
  (.ite (decide (x1 < x0))
    (.guard ((0 : Int) ≤ x1 ∧ x1 < ((Sl.len (.waits x2.Waits) : Nat) : Int))
    (.guard ((0 : Int) ≤ x1 ∧ x1 < ((Sl.len (.waits x3.Waits) : Nat) : Int))
    (.ite (!(eqWait (x2.Waits.getD x1.toNat default) (x3.Waits.getD x1.toNat default)))
      (.leaf (.inr (.inl false)))
      (.leaf (.inl (x0, IntKind.i64.wrap (x1 + 1), x2, x3))))))
    (.leaf (.inr (.inr ()))))
def sh_ref_SameStake_l1 (x0 : Int) (x1 : Int) (x2 : Stake) (x3 : Stake) : Option ((Bool) ⊕ (Unit)) := iter (fun s : Int × Int × Stake × Stake => (T_ref_SameStake_l1 s.1 s.2.1 s.2.2.1 s.2.2.2).run) (x0, x1, x2, x3)
def za94a : Ann := ⟨[], [], [], zv94, []⟩
def zq94a : EndD (Int × Int × Stake × Stake) := ⟨(LQ.skip (LQ.const (.ptr 0 0)) (LQ.skip (LQ.const (.ptr 1 0)) (LQ.seq (Par.q intP) (LQ.seq (Par.q intP) (LQ.seq (LP.q stakeL) (LP.q stakeL)))))), ⟨[2, 3, 43, 44], []⟩, [.cells 32 63, .cells 32 63]⟩
def zq94ae0 : EndD (Bool) := ⟨(Par.q boolP), ⟨[4], []⟩, []⟩
def zq94ae1 : EndD (Unit) := ⟨LQ.nil, ⟨[], []⟩, []⟩
def zl94a : St → Option LR := L2 59 4 0 zq94a .ret zq94ae0 (.exit 0) zq94ae1 (fun s => T_ref_SameStake_l1 s.1 s.2.1 s.2.2.1 s.2.2.2)
theorem zk94a : PieceOk (zy94).env 0 (sub zc94 [0, 1, 0, 1, 1]) zl94a :=
  loop2 (A := za94a) zh94 Facts.mix trivial (k := loopB (sub zc94 [0, 1, 0, 1, 1])) (by kernel_rfl) rfl rfl (by rintro ⟨x0, x1, x2, x3⟩; kernel_rfl)
def za94 : Ann := ⟨[([0, 1, 0, 1, 1], zl94a)], [], [], zv94, []⟩
def T_ref_SameStake (a0 : Stake) (a1 : Stake) : Tr (Bool) :=
  (.ite (((((!(eqBank a0.Bank a1.Bank)) || (!(eqVals a0.Validators a1.Validators))) || (!(eqShares a0.Shares a1.Shares))) || (a0.Next != a1.Next)) || (((a0.Waits.length : Nat) : Int) != ((a1.Waits.length : Nat) : Int)))
    (.leaf false)
    (.two (sh_ref_SameStake_l1 ((a0.Waits.length : Nat) : Int) 0 a0 a1) (fun v1 =>
      (.leaf v1)) (fun v2 =>
      (.leaf true))))
def sh_ref_SameStake (a0 : Stake) (a1 : Stake) : Option (Bool) := (T_ref_SameStake a0 a1).run
def zr94 : LQ (Stake × Stake) := (LQ.seq (Par.q (Par.ofLP stakeL)) (Par.q (Par.ofLP stakeL)))
def qr_ref_SameStake : LQ (Bool) := (Par.q boolP)
def F_ref_SameStake : SpecT := specF 0 zr94 2 [] (fun s => T_ref_SameStake s.1 s.2) default qr_ref_SameStake 1 []
theorem ok_ref_SameStake : SpecOk Tryz.prog 56 (F_ref_SameStake).spec :=
  specF_ok (A := za94) zh94 Facts.mix Tryz.func56 (c := zc94) (by kernel_rfl) (Lc := 0) ⟨zk94a, trivial⟩ zr94 2 4 [] (fun s => T_ref_SameStake s.1 s.2) default qr_ref_SameStake 1 [] [] (by decide) (by kernel_rfl) (by rfl) (by decide) (by decide) (by rfl)
    (by rintro ⟨a0, a1⟩; kernel_rfl)

noncomputable def zc95 : Code := Tryz.f87.body.getD .skip
def zv95 : List (List Nat) := [[1], [1, 33], [2], [1, 3, 4], [1, 3, 4, 35, 36], [1, 3, 4, 35, 36, 37], [1, 3, 4, 5, 6, 35, 36], [1, 3, 4, 5, 6, 7, 35, 36], [1, 3, 4, 5, 6, 7, 35, 36, 41, 42], [1, 3, 4, 5, 6, 7, 35, 36, 41, 42, 43], [1, 3, 4, 5, 6, 7, 9, 35, 36, 41, 42], [1, 3, 4, 5, 6, 7, 9, 35, 36, 41, 42, 49], [2], [1, 3, 4, 5, 6, 7, 35, 36, 41, 42], [1, 3, 4, 5, 6, 7, 35, 36, 41, 42], [1, 3, 4, 6, 35, 36, 95], [2], [1, 3, 4, 6, 35, 36], [1, 3, 4, 35, 36], [1, 3, 4, 35, 36], [1, 3, 4, 10, 11], [1, 3, 4, 10, 11, 106, 107, 108], [1, 3, 4, 10, 11, 106, 107, 108, 109], [1, 3, 4, 10, 11, 13, 106, 107, 108], [1, 3, 4, 10, 13, 106, 107, 108, 158], [2], [1, 3, 4, 10, 11, 13, 106, 107, 108], [1, 3, 4, 10, 11, 106, 107, 108], [1, 3, 4, 10, 11, 106, 107, 108], [2]]
noncomputable def zy95 : EnvT := ⟨Tryz.prog, lookT [(132, F_ref_GoodBank), (133, F_ref_In)]⟩
theorem zh95 : (zy95).Ok := lookT_ok ⟨ok_ref_GoodBank, ok_ref_In, trivial⟩
def T_ref_GoodStake_l1 (x0 : Int) (x1 : Int) (x2 : Int) (x3 : Int) (x4 : (A6 Validator)) (x5 : Int) (x6 : (A4 (A6 Int))) (x7 : Int) (x8 : Stake) (x9 : Validator) : Tr ((Int × Int × Int × Int × (A6 Validator) × Int × (A4 (A6 Int)) × Int × Stake × Validator) ⊕ ((Bool) ⊕ (Int × Int × Int × (A6 Validator) × Int × Stake × Validator))) :=
  (.ite (decide (x7 < 4))
    (.guard ((0 : Int) ≤ x7 ∧ (x7 : Int) < 4)
    (.guard ((0 : Int) ≤ x2 ∧ (x2 : Int) < 6)
    (.bind (sh_ref_In (A6.get ⟨A4.get ⟨x6.x0.x0, x6.x1.x0, x6.x2.x0, x6.x3.x0⟩ x7, A4.get ⟨x6.x0.x1, x6.x1.x1, x6.x2.x1, x6.x3.x1⟩ x7, A4.get ⟨x6.x0.x2, x6.x1.x2, x6.x2.x2, x6.x3.x2⟩ x7, A4.get ⟨x6.x0.x3, x6.x1.x3, x6.x2.x3, x6.x3.x3⟩ x7, A4.get ⟨x6.x0.x4, x6.x1.x4, x6.x2.x4, x6.x3.x4⟩ x7, A4.get ⟨x6.x0.x5, x6.x1.x5, x6.x2.x5, x6.x3.x5⟩ x7⟩ x2)) fun v2 =>
    (.ite (!v2)
      (.leaf (.inr (.inl false)))
      (.guard ((0 : Int) ≤ x2 ∧ (x2 : Int) < 6)
      (.leaf (.inl (x0, x1, x2, IntKind.i64.wrap (x3 + (A6.get ⟨A4.get ⟨x6.x0.x0, x6.x1.x0, x6.x2.x0, x6.x3.x0⟩ x7, A4.get ⟨x6.x0.x1, x6.x1.x1, x6.x2.x1, x6.x3.x1⟩ x7, A4.get ⟨x6.x0.x2, x6.x1.x2, x6.x2.x2, x6.x3.x2⟩ x7, A4.get ⟨x6.x0.x3, x6.x1.x3, x6.x2.x3, x6.x3.x3⟩ x7, A4.get ⟨x6.x0.x4, x6.x1.x4, x6.x2.x4, x6.x3.x4⟩ x7, A4.get ⟨x6.x0.x5, x6.x1.x5, x6.x2.x5, x6.x3.x5⟩ x7⟩ x2)), x4, x5, x6, IntKind.i64.wrap (x7 + 1), x8, x9))))))))
    (.leaf (.inr (.inr (x0, x1, x3, x4, x5, x8, x9)))))
def sh_ref_GoodStake_l1 (x0 : Int) (x1 : Int) (x2 : Int) (x3 : Int) (x4 : (A6 Validator)) (x5 : Int) (x6 : (A4 (A6 Int))) (x7 : Int) (x8 : Stake) (x9 : Validator) : Option ((Bool) ⊕ (Int × Int × Int × (A6 Validator) × Int × Stake × Validator)) := iter (fun s : Int × Int × Int × Int × (A6 Validator) × Int × (A4 (A6 Int)) × Int × Stake × Validator => (T_ref_GoodStake_l1 s.1 s.2.1 s.2.2.1 s.2.2.2.1 s.2.2.2.2.1 s.2.2.2.2.2.1 s.2.2.2.2.2.2.1 s.2.2.2.2.2.2.2.1 s.2.2.2.2.2.2.2.2.1 s.2.2.2.2.2.2.2.2.2).run) (x0, x1, x2, x3, x4, x5, x6, x7, x8, x9)
def za95a : Ann := ⟨[], [], [], zv95, []⟩
def zq95a : EndD (Int × Int × Int × Int × (A6 Validator) × Int × (A4 (A6 Int)) × Int × Stake × Validator) := ⟨(LQ.skip (LQ.const (.ptr 0 0)) (LQ.seq (Par.q intP) (LQ.seq (Par.q intP) (LQ.seq (Par.q intP) (LQ.skip (LQ.const (.ptr 1 0)) (LQ.seq (Par.q intP) (LQ.seq (Par.q (Par.ofLP (a6L validatorL))) (LQ.seq (Par.q intP) (LQ.seq (Par.q (Par.ofLP (a4L (a6L (LP.one intP))))) (LQ.seq (Par.q intP) (LQ.seq (LP.q stakeL) (LP.q validatorL)))))))))))), ⟨[1, 3, 4, 5, 6, 7, 35, 36, 41, 42], []⟩, [.cells 32 63, .cells 26 5]⟩
def zq95ae0 : EndD (Bool) := ⟨(Par.q boolP), ⟨[2], []⟩, []⟩
def zq95ae1 : EndD (Int × Int × Int × (A6 Validator) × Int × Stake × Validator) := ⟨(LQ.skip (LQ.const (.ptr 0 0)) (LQ.seq (Par.q intP) (LQ.seq (Par.q intP) (LQ.skip (LQ.const (.ptr 1 0)) (LQ.seq (Par.q intP) (LQ.seq (Par.q (Par.ofLP (a6L validatorL))) (LQ.seq (Par.q intP) (LQ.seq (LP.q stakeL) (LP.q validatorL))))))))), ⟨[1, 3, 4, 6, 7, 35, 36], []⟩, [.cells 32 63, .cells 26 5]⟩
def zl95a : St → Option LR := L2 185 5 0 zq95a .ret zq95ae0 (.exit 2) zq95ae1 (fun s => T_ref_GoodStake_l1 s.1 s.2.1 s.2.2.1 s.2.2.2.1 s.2.2.2.2.1 s.2.2.2.2.2.1 s.2.2.2.2.2.2.1 s.2.2.2.2.2.2.2.1 s.2.2.2.2.2.2.2.2.1 s.2.2.2.2.2.2.2.2.2)
theorem zk95a : PieceOk (zy95).env 0 (sub zc95 [0, 1, 0, 1, 1, 0, 0, 1, 1, 0, 0, 1, 0, 1, 1, 1]) zl95a :=
  loop2 (A := za95a) zh95 Facts.mix trivial (k := loopB (sub zc95 [0, 1, 0, 1, 1, 0, 0, 1, 1, 0, 0, 1, 0, 1, 1, 1])) (by kernel_rfl) rfl rfl (by rintro ⟨x0, x1, x2, x3, x4, x5, x6, x7, x8, x9⟩; kernel_rfl)
def T_ref_GoodStake_l2 (x0 : Int) (x1 : Int) (x2 : (A6 Validator)) (x3 : Int) (x4 : Stake) : Tr ((Int × Int × (A6 Validator) × Int × Stake) ⊕ ((Bool) ⊕ (Int × Int × Stake))) :=
  (.ite (decide (x3 < 6))
    (.guard ((0 : Int) ≤ x3 ∧ (x3 : Int) < 6)
    (.two (sh_ref_GoodStake_l1 x0 x1 x3 0 x2 x3 x4.Shares 0 x4 (⟨A6.get ⟨x2.x0.Tokens, x2.x1.Tokens, x2.x2.Tokens, x2.x3.Tokens, x2.x4.Tokens, x2.x5.Tokens⟩ x3, A6.get ⟨x2.x0.Shares, x2.x1.Shares, x2.x2.Shares, x2.x3.Shares, x2.x4.Shares, x2.x5.Shares⟩ x3, A6.get ⟨x2.x0.Lost, x2.x1.Lost, x2.x2.Lost, x2.x3.Lost, x2.x4.Lost, x2.x5.Lost⟩ x3, A6.get ⟨x2.x0.Jailed, x2.x1.Jailed, x2.x2.Jailed, x2.x3.Jailed, x2.x4.Jailed, x2.x5.Jailed⟩ x3, A6.get ⟨x2.x0.Dead, x2.x1.Dead, x2.x2.Dead, x2.x3.Dead, x2.x4.Dead, x2.x5.Dead⟩ x3⟩ : Validator)) (fun v3 =>
      (.leaf (.inr (.inl v3)))) (fun v4 =>
      (.bind (sh_ref_In v4.2.2.2.2.2.2.Tokens) fun v5 =>
      (.guard (((!v5) = false → ((sh_ref_In v4.2.2.2.2.2.2.Shares).isSome = true) ∧ True))
      (.guard ((((!v5) || (!((sh_ref_In v4.2.2.2.2.2.2.Shares).getD default))) = false → ((sh_ref_In v4.2.2.2.2.2.2.Lost).isSome = true) ∧ True))
      (.ite ((((((!v5) || (!((sh_ref_In v4.2.2.2.2.2.2.Shares).getD default))) || (!((sh_ref_In v4.2.2.2.2.2.2.Lost).getD default))) || (v4.2.2.1 != v4.2.2.2.2.2.2.Shares)) || ((v4.2.2.1 == 0) && (v4.2.2.2.2.2.2.Tokens != 0))) || (v4.2.2.2.2.2.2.Dead && (!v4.2.2.2.2.2.2.Jailed)))
        (.leaf (.inr (.inl false)))
        (.leaf (.inl (IntKind.i64.wrap (v4.1 + v4.2.2.2.2.2.2.Tokens), IntKind.i64.wrap (v4.2.1 + v4.2.2.2.2.2.2.Lost), v4.2.2.2.1, IntKind.i64.wrap (v4.2.2.2.2.1 + 1), v4.2.2.2.2.2.1))))))))))
    (.leaf (.inr (.inr (x0, x1, (⟨x4.Bank, x4.Validators, x4.Shares, x4.Waits, x4.Next⟩ : Stake))))))
def sh_ref_GoodStake_l2 (x0 : Int) (x1 : Int) (x2 : (A6 Validator)) (x3 : Int) (x4 : Stake) : Option ((Bool) ⊕ (Int × Int × Stake)) := iter (fun s : Int × Int × (A6 Validator) × Int × Stake => (T_ref_GoodStake_l2 s.1 s.2.1 s.2.2.1 s.2.2.2.1 s.2.2.2.2).run) (x0, x1, x2, x3, x4)
def za95b : Ann := ⟨[([0, 1, 0, 1, 1, 0, 0, 1, 1, 0, 0, 1, 0, 1, 1, 1], zl95a)], [], [], zv95, []⟩
def zq95b : EndD (Int × Int × (A6 Validator) × Int × Stake) := ⟨(LQ.skip (LQ.const (.ptr 0 0)) (LQ.seq (Par.q intP) (LQ.seq (Par.q intP) (LQ.seq (Par.q (Par.ofLP (a6L validatorL))) (LQ.seq (Par.q intP) (LP.q stakeL)))))), ⟨[1, 3, 4, 35, 36], []⟩, [.cells 32 63]⟩
def zq95be0 : EndD (Bool) := ⟨(Par.q boolP), ⟨[2], []⟩, []⟩
def zq95be1 : EndD (Int × Int × Stake) := ⟨(LQ.skip (LQ.const (.ptr 0 0)) (LQ.seq (Par.q intP) (LQ.seq (Par.q intP) (LP.q stakeL)))), ⟨[1, 3, 4], []⟩, [.cells 32 63]⟩
def zl95b : St → Option LR := L2 185 5 0 zq95b .ret zq95be0 (.exit 0) zq95be1 (fun s => T_ref_GoodStake_l2 s.1 s.2.1 s.2.2.1 s.2.2.2.1 s.2.2.2.2)
theorem zk95b : PieceOk (zy95).env 0 (sub zc95 [0, 1, 0, 1, 1, 1]) zl95b :=
  loop2 (A := za95b) zh95 Facts.mix ⟨zk95a, trivial⟩ (k := loopB (sub zc95 [0, 1, 0, 1, 1, 1])) (by kernel_rfl) rfl rfl (by rintro ⟨x0, x1, x2, x3, x4⟩; kernel_rfl)
def T_ref_GoodStake_l3 (x0 : Int) (x1 : Int) (x2 : Int) (x3 : Int) (x4 : (List Wait)) (x5 : Int) (x6 : Int) (x7 : Stake) : Tr ((Int × Int × Int × Int × (List Wait) × Int × Int × Stake) ⊕ ((Bool) ⊕ (Int × Int × Int × Stake))) :=
  (.ite (decide (x6 < x5))
    (.guard ((0 : Int) ≤ x6 ∧ x6 < ((Sl.len (.waits x4) : Nat) : Int))
    (.guard ((((((((decide (((x4.getD x6.toNat default).Number) ≤ x3)) || (decide (((x4.getD x6.toNat default).Number) ≥ x7.Next))) || (decide (((x4.getD x6.toNat default).D) < 0))) || (decide (((x4.getD x6.toNat default).D) > 3))) || (decide (((x4.getD x6.toNat default).V) < 0))) || (decide (((x4.getD x6.toNat default).V) > 5))) = false → ((sh_ref_In ((x4.getD x6.toNat default).Amount)).isSome = true) ∧ True))
    (.ite (((((((((decide (((x4.getD x6.toNat default).Number) ≤ x3)) || (decide (((x4.getD x6.toNat default).Number) ≥ x7.Next))) || (decide (((x4.getD x6.toNat default).D) < 0))) || (decide (((x4.getD x6.toNat default).D) > 3))) || (decide (((x4.getD x6.toNat default).V) < 0))) || (decide (((x4.getD x6.toNat default).V) > 5))) || (!((sh_ref_In ((x4.getD x6.toNat default).Amount)).getD default))) || (decide (((x4.getD x6.toNat default).Height) < 0))) || (decide (((x4.getD x6.toNat default).Due) < 0)))
      (.leaf (.inr (.inl false)))
      (.leaf (.inl (x0, x1, IntKind.i64.wrap (x2 + ((x4.getD x6.toNat default).Amount)), (x4.getD x6.toNat default).Number, x4, x5, IntKind.i64.wrap (x6 + 1), x7))))))
    (.leaf (.inr (.inr (x0, x1, x2, x7)))))
def sh_ref_GoodStake_l3 (x0 : Int) (x1 : Int) (x2 : Int) (x3 : Int) (x4 : (List Wait)) (x5 : Int) (x6 : Int) (x7 : Stake) : Option ((Bool) ⊕ (Int × Int × Int × Stake)) := iter (fun s : Int × Int × Int × Int × (List Wait) × Int × Int × Stake => (T_ref_GoodStake_l3 s.1 s.2.1 s.2.2.1 s.2.2.2.1 s.2.2.2.2.1 s.2.2.2.2.2.1 s.2.2.2.2.2.2.1 s.2.2.2.2.2.2.2).run) (x0, x1, x2, x3, x4, x5, x6, x7)
def za95c : Ann := ⟨[], [], [], zv95, []⟩
def zq95c : EndD (Int × Int × Int × Int × (List Wait) × Int × Int × Stake) := ⟨(LQ.skip (LQ.const (.ptr 0 0)) (LQ.seq (Par.q intP) (LQ.seq (Par.q intP) (LQ.seq (Par.q intP) (LQ.seq (Par.q intP) (LQ.seq (Par.q waitsP) (LQ.seq (Par.q intP) (LQ.seq (Par.q intP) (LP.q stakeL))))))))), ⟨[1, 3, 4, 10, 11, 106, 107, 108], [.pub 106, .nilsl 106 (.waits [])]⟩, [.cells 32 63]⟩
def zq95ce0 : EndD (Bool) := ⟨(Par.q boolP), ⟨[2], []⟩, []⟩
def zq95ce1 : EndD (Int × Int × Int × Stake) := ⟨(LQ.skip (LQ.const (.ptr 0 0)) (LQ.seq (Par.q intP) (LQ.seq (Par.q intP) (LQ.seq (Par.q intP) (LP.q stakeL))))), ⟨[1, 3, 4, 10], []⟩, [.cells 32 63]⟩
def zl95c : St → Option LR := L2 185 5 0 zq95c .ret zq95ce0 (.exit 4) zq95ce1 (fun s => T_ref_GoodStake_l3 s.1 s.2.1 s.2.2.1 s.2.2.2.1 s.2.2.2.2.1 s.2.2.2.2.2.1 s.2.2.2.2.2.2.1 s.2.2.2.2.2.2.2)
theorem zk95c : PieceOk (zy95).env 0 (sub zc95 [0, 1, 0, 1, 1, 1, 1, 1]) zl95c :=
  loop2 (A := za95c) zh95 Facts.mix trivial (k := loopB (sub zc95 [0, 1, 0, 1, 1, 1, 1, 1])) (by kernel_rfl) rfl rfl (by rintro ⟨x0, x1, x2, x3, x4, x5, x6, x7⟩; kernel_rfl)
def za95 : Ann := ⟨[([0, 1, 0, 1, 1, 1], zl95b), ([0, 1, 0, 1, 1, 1, 1, 1], zl95c)], [], [], zv95, []⟩
def T_ref_GoodStake (a0 : Stake) : Tr (Bool) :=
  (.bind (sh_ref_GoodBank a0.Bank) fun v1 =>
  (.ite ((((!v1) || (decide (a0.Next < 1))) || (decide (a0.Next > 1125899906842624))) || (decide (((a0.Waits.length : Nat) : Int) > 60)))
    (.leaf false)
    (.two (sh_ref_GoodStake_l2 0 0 (⟨(⟨a0.Validators.Tokens.x0, a0.Validators.Shares.x0, a0.Validators.Lost.x0, a0.Validators.Jailed.x0, a0.Validators.Dead.x0⟩ : Validator), (⟨a0.Validators.Tokens.x1, a0.Validators.Shares.x1, a0.Validators.Lost.x1, a0.Validators.Jailed.x1, a0.Validators.Dead.x1⟩ : Validator), (⟨a0.Validators.Tokens.x2, a0.Validators.Shares.x2, a0.Validators.Lost.x2, a0.Validators.Jailed.x2, a0.Validators.Dead.x2⟩ : Validator), (⟨a0.Validators.Tokens.x3, a0.Validators.Shares.x3, a0.Validators.Lost.x3, a0.Validators.Jailed.x3, a0.Validators.Dead.x3⟩ : Validator), (⟨a0.Validators.Tokens.x4, a0.Validators.Shares.x4, a0.Validators.Lost.x4, a0.Validators.Jailed.x4, a0.Validators.Dead.x4⟩ : Validator), (⟨a0.Validators.Tokens.x5, a0.Validators.Shares.x5, a0.Validators.Lost.x5, a0.Validators.Jailed.x5, a0.Validators.Dead.x5⟩ : Validator)⟩ : (A6 Validator)) 0 a0) (fun v6 =>
      (.leaf v6)) (fun v7 =>
      (.two (sh_ref_GoodStake_l3 v7.1 v7.2.1 0 0 v7.2.2.Waits ((v7.2.2.Waits.length : Nat) : Int) 0 v7.2.2) (fun v8 =>
        (.leaf v8)) (fun v9 =>
        (.leaf (((v9.1 == v9.2.2.2.Bank.Bonded) && (v9.2.2.1 == v9.2.2.2.Bank.Waiting)) && (v9.2.1 == v9.2.2.2.Bank.Burnt)))))))))
def sh_ref_GoodStake (a0 : Stake) : Option (Bool) := (T_ref_GoodStake a0).run
def zr95 : LQ (Stake) := (Par.q (Par.ofLP stakeL))
def qr_ref_GoodStake : LQ (Bool) := (Par.q boolP)
def F_ref_GoodStake : SpecT := specF 0 zr95 1 [] (fun s => T_ref_GoodStake s) default qr_ref_GoodStake 1 []
theorem ok_ref_GoodStake : SpecOk Tryz.prog 87 (F_ref_GoodStake).spec :=
  specF_ok (A := za95) zh95 Facts.mix Tryz.func87 (c := zc95) (by kernel_rfl) (Lc := 0) ⟨zk95b, zk95c, trivial⟩ zr95 1 5 [] (fun s => T_ref_GoodStake s) default qr_ref_GoodStake 1 [] [] (by decide) (by kernel_rfl) (by rfl) (by decide) (by decide) (by rfl)
    (by rintro a0; kernel_rfl)

end
end Go.Proofs.YtknbejjfejdppaaGreat.Ab
