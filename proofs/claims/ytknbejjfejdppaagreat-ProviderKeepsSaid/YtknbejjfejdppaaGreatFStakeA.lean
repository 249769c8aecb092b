/-
  The functions, each by its tree.
-/
import Derived.Test.YtknbejjfejdppaaGreatFacts
import Derived.Test.YtknbejjfejdppaaGreatAbStructs
import Derived.Test.YtknbejjfejdppaaGreatAbFun
import Derived.Test.YtknbejjfejdppaaGreatFRatio
import Derived.Test.YtknbejjfejdppaaGreatFBank
import Derived.Test.YtknbejjfejdppaaGreatFLine
namespace Go.Proofs.YtknbejjfejdppaaGreat.Ab
open Go Go.RowKit
set_option maxRecDepth 100000
set_option linter.unusedVariables false
set_option linter.unusedSimpArgs false
noncomputable section

noncomputable def zc77 : Code := Tryz.f93.body.getD .skip
def zv77 : List (List Nat) := [[0], [0]]
noncomputable def zy77 : EnvT := ⟨Tryz.prog, lookT [(136, F_bank_New)]⟩
theorem zh77 : (zy77).Ok := lookT_ok ⟨ok_bank_New, trivial⟩
def za77 : Ann := ⟨[], [], [], zv77, []⟩
def T_stake_New  : Tr (Stake) :=
  (.bind (sh_bank_New) fun v1 =>
  (.leaf (⟨v1, (default : Validators), (⟨(⟨0, 0, 0, 0, 0, 0⟩ : (A6 Int)), (⟨0, 0, 0, 0, 0, 0⟩ : (A6 Int)), (⟨0, 0, 0, 0, 0, 0⟩ : (A6 Int)), (⟨0, 0, 0, 0, 0, 0⟩ : (A6 Int))⟩ : (A4 (A6 Int))), [], 1⟩ : Stake)))
def sh_stake_New  : Option (Stake) := (T_stake_New ).run
def zr77 : LQ (Unit) := LQ.nil
def qr_stake_New : LQ (Stake) := (Par.q (Par.ofLP stakeL))
def F_stake_New : SpecT := specF 0 zr77 0 [] (fun s => T_stake_New ) default qr_stake_New 1 []
theorem ok_stake_New : SpecOk Tryz.prog 93 (F_stake_New).spec :=
  specF_ok (A := za77) zh77 Facts.mix Tryz.func93 (c := zc77) (by kernel_rfl) (Lc := 0) trivial zr77 0 3 [] (fun s => T_stake_New ) default qr_stake_New 1 [] [.pubB 0] (by decide) (by kernel_rfl) (by rfl) (by decide) (by decide) (by rfl)
    (by rintro _; kernel_rfl)

noncomputable def zc78 : Code := Tryz.f66.body.getD .skip
def zv78 : List (List Nat) := [[1], [1, 31], [2], [1, 3, 4, 5], [1, 3, 4, 5, 33, 34], [1, 3, 4, 5, 33, 34, 35], [1, 3, 4, 5, 6, 7, 33, 34], [1, 3, 4, 5, 6, 7, 33, 34, 72], [2], [1, 3, 4, 5, 6, 7, 8, 33, 34], [1, 3, 4, 5, 6, 7, 8, 33, 34, 73], [1, 3, 4, 5, 6, 7, 8, 33, 34, 73, 74], [1, 3, 4, 5, 6, 7, 8, 9, 33, 34, 73], [1, 3, 4, 5, 6, 7, 8, 9, 33, 34, 73, 83], [2], [1, 3, 4, 5, 6, 7, 8, 33, 34, 73], [1, 3, 4, 5, 6, 7, 8, 33, 34, 73], [1, 3, 4, 5, 7, 33, 34, 96], [2], [1, 3, 4, 5, 33, 34], [1, 3, 4, 5, 33, 34], [1, 3, 4, 5, 107, 108, 109], [1, 3, 4, 5, 107, 108, 109, 110], [1, 3, 4, 5, 10, 11, 107, 108, 109], [1, 3, 4, 5, 11, 107, 108, 109, 175], [2], [1, 3, 4, 5, 107, 108, 109], [1, 3, 4, 5, 107, 108, 109], [2]]
noncomputable def zy78 : EnvT := ⟨Tryz.prog, lookT [(116, F_bank_Good), (117, F_ratio_In)]⟩
theorem zh78 : (zy78).Ok := lookT_ok ⟨ok_bank_Good, ok_ratio_In, trivial⟩
def T_stake_Good_l1 (x0 : Int) (x1 : Int) (x2 : Int) (x3 : Int) (x4 : Int) (x5 : (A6 Validator)) (x6 : Int) (x7 : Int) (x8 : Stake) (x9 : Validator) : Tr ((Int × Int × Int × Int × Int × (A6 Validator) × Int × Int × Stake × Validator) ⊕ ((Bool) ⊕ (Int × Int × Int × Int × (A6 Validator) × Int × Stake × Validator))) :=
  (.ite (decide (x7 < 4))
    (.guard ((0 : Int) ≤ x7 ∧ (x7 : Int) < 4)
    (.guard ((0 : Int) ≤ x3 ∧ (x3 : Int) < 6)
    (.bind (sh_ratio_In (A46.get x8.Shares x7 x3)) fun v3 =>
    (.ite (!v3)
      (.leaf (.inr (.inl false)))
      (.guard ((0 : Int) ≤ x7 ∧ (x7 : Int) < 4)
      (.guard ((0 : Int) ≤ x3 ∧ (x3 : Int) < 6)
      (.leaf (.inl (x0, x1, x2, x3, IntKind.i64.wrap (x4 + (A46.get x8.Shares x7 x3)), x5, x6, IntKind.i64.wrap (x7 + 1), x8, x9)))))))))
    (.leaf (.inr (.inr (x0, x1, x2, x4, x5, x6, x8, x9)))))
def sh_stake_Good_l1 (x0 : Int) (x1 : Int) (x2 : Int) (x3 : Int) (x4 : Int) (x5 : (A6 Validator)) (x6 : Int) (x7 : Int) (x8 : Stake) (x9 : Validator) : Option ((Bool) ⊕ (Int × Int × Int × Int × (A6 Validator) × Int × Stake × Validator)) := iter (fun s : Int × Int × Int × Int × Int × (A6 Validator) × Int × Int × Stake × Validator => (T_stake_Good_l1 s.1 s.2.1 s.2.2.1 s.2.2.2.1 s.2.2.2.2.1 s.2.2.2.2.2.1 s.2.2.2.2.2.2.1 s.2.2.2.2.2.2.2.1 s.2.2.2.2.2.2.2.2.1 s.2.2.2.2.2.2.2.2.2).run) (x0, x1, x2, x3, x4, x5, x6, x7, x8, x9)
def za78a : Ann := ⟨[], [], [], zv78, []⟩
def zq78a : EndD (Int × Int × Int × Int × Int × (A6 Validator) × Int × Int × Stake × Validator) := ⟨(LQ.skip (LQ.const (.ptr 0 0)) (LQ.seq (Par.q intP) (LQ.seq (Par.q intP) (LQ.seq (Par.q intP) (LQ.seq (Par.q intP) (LQ.skip (LQ.const (.ptr 1 0)) (LQ.seq (Par.q intP) (LQ.seq (Par.q (Par.ofLP (a6L validatorL))) (LQ.seq (Par.q intP) (LQ.seq (Par.q intP) (LQ.seq (LP.q stakeL) (LP.q validatorL)))))))))))), ⟨[1, 3, 4, 5, 6, 7, 8, 33, 34, 73], []⟩, [.cells 32 63, .cells 26 5]⟩
def zq78ae0 : EndD (Bool) := ⟨(Par.q boolP), ⟨[2], []⟩, []⟩
def zq78ae1 : EndD (Int × Int × Int × Int × (A6 Validator) × Int × Stake × Validator) := ⟨(LQ.skip (LQ.const (.ptr 0 0)) (LQ.seq (Par.q intP) (LQ.seq (Par.q intP) (LQ.seq (Par.q intP) (LQ.skip (LQ.const (.ptr 1 0)) (LQ.seq (Par.q intP) (LQ.seq (Par.q (Par.ofLP (a6L validatorL))) (LQ.seq (Par.q intP) (LQ.seq (LP.q stakeL) (LP.q validatorL)))))))))), ⟨[1, 3, 4, 5, 7, 8, 33, 34], []⟩, [.cells 32 63, .cells 26 5]⟩
def zl78a : St → Option LR := L2 200 4 0 zq78a .ret zq78ae0 (.exit 2) zq78ae1 (fun s => T_stake_Good_l1 s.1 s.2.1 s.2.2.1 s.2.2.2.1 s.2.2.2.2.1 s.2.2.2.2.2.1 s.2.2.2.2.2.2.1 s.2.2.2.2.2.2.2.1 s.2.2.2.2.2.2.2.2.1 s.2.2.2.2.2.2.2.2.2)
theorem zk78a : PieceOk (zy78).env 0 (sub zc78 [0, 1, 0, 1, 1, 1, 0, 0, 1, 1, 0, 0, 1, 0, 1, 1, 1]) zl78a :=
  loop2 (A := za78a) zh78 Facts.mix trivial (k := loopB (sub zc78 [0, 1, 0, 1, 1, 1, 0, 0, 1, 1, 0, 0, 1, 0, 1, 1, 1])) (by kernel_rfl) rfl rfl (by rintro ⟨x0, x1, x2, x3, x4, x5, x6, x7, x8, x9⟩; kernel_rfl)
def T_stake_Good_l2 (x0 : Int) (x1 : Int) (x2 : Int) (x3 : (A6 Validator)) (x4 : Int) (x5 : Stake) : Tr ((Int × Int × Int × (A6 Validator) × Int × Stake) ⊕ ((Bool) ⊕ (Int × Int × Int × Stake))) :=
  (.ite (decide (x4 < 6))
    (.guard ((0 : Int) ≤ x4 ∧ (x4 : Int) < 6)
    (.bind (sh_ratio_In (A6.get ⟨x3.x0.Tokens, x3.x1.Tokens, x3.x2.Tokens, x3.x3.Tokens, x3.x4.Tokens, x3.x5.Tokens⟩ x4)) fun v2 =>
    (.guard (((!v2) = false → ((sh_ratio_In (A6.get ⟨x3.x0.Shares, x3.x1.Shares, x3.x2.Shares, x3.x3.Shares, x3.x4.Shares, x3.x5.Shares⟩ x4)).isSome = true) ∧ True))
    (.guard ((((!v2) || (!((sh_ratio_In (A6.get ⟨x3.x0.Shares, x3.x1.Shares, x3.x2.Shares, x3.x3.Shares, x3.x4.Shares, x3.x5.Shares⟩ x4)).getD default))) = false → ((sh_ratio_In (A6.get ⟨x3.x0.Lost, x3.x1.Lost, x3.x2.Lost, x3.x3.Lost, x3.x4.Lost, x3.x5.Lost⟩ x4)).isSome = true) ∧ True))
    (.ite (((((!v2) || (!((sh_ratio_In (A6.get ⟨x3.x0.Shares, x3.x1.Shares, x3.x2.Shares, x3.x3.Shares, x3.x4.Shares, x3.x5.Shares⟩ x4)).getD default))) || (!((sh_ratio_In (A6.get ⟨x3.x0.Lost, x3.x1.Lost, x3.x2.Lost, x3.x3.Lost, x3.x4.Lost, x3.x5.Lost⟩ x4)).getD default))) || (((A6.get ⟨x3.x0.Shares, x3.x1.Shares, x3.x2.Shares, x3.x3.Shares, x3.x4.Shares, x3.x5.Shares⟩ x4) == 0) && (decide ((A6.get ⟨x3.x0.Tokens, x3.x1.Tokens, x3.x2.Tokens, x3.x3.Tokens, x3.x4.Tokens, x3.x5.Tokens⟩ x4) > 0)))) || ((A6.get ⟨x3.x0.Dead, x3.x1.Dead, x3.x2.Dead, x3.x3.Dead, x3.x4.Dead, x3.x5.Dead⟩ x4) && (!(A6.get ⟨x3.x0.Jailed, x3.x1.Jailed, x3.x2.Jailed, x3.x3.Jailed, x3.x4.Jailed, x3.x5.Jailed⟩ x4))))
      (.leaf (.inr (.inl false)))
      (.two (sh_stake_Good_l1 x0 x1 x2 x4 0 x3 x4 0 x5 (⟨A6.get ⟨x3.x0.Tokens, x3.x1.Tokens, x3.x2.Tokens, x3.x3.Tokens, x3.x4.Tokens, x3.x5.Tokens⟩ x4, A6.get ⟨x3.x0.Shares, x3.x1.Shares, x3.x2.Shares, x3.x3.Shares, x3.x4.Shares, x3.x5.Shares⟩ x4, A6.get ⟨x3.x0.Lost, x3.x1.Lost, x3.x2.Lost, x3.x3.Lost, x3.x4.Lost, x3.x5.Lost⟩ x4, A6.get ⟨x3.x0.Jailed, x3.x1.Jailed, x3.x2.Jailed, x3.x3.Jailed, x3.x4.Jailed, x3.x5.Jailed⟩ x4, A6.get ⟨x3.x0.Dead, x3.x1.Dead, x3.x2.Dead, x3.x3.Dead, x3.x4.Dead, x3.x5.Dead⟩ x4⟩ : Validator)) (fun v4 =>
        (.leaf (.inr (.inl v4)))) (fun v5 =>
        (.ite (v5.2.2.2.1 != v5.2.2.2.2.2.2.2.Shares)
          (.leaf (.inr (.inl false)))
          (.leaf (.inl (IntKind.i64.wrap (v5.1 + v5.2.2.2.2.2.2.2.Tokens), v5.2.1, IntKind.i64.wrap (v5.2.2.1 + v5.2.2.2.2.2.2.2.Lost), v5.2.2.2.2.1, IntKind.i64.wrap (v5.2.2.2.2.2.1 + 1), v5.2.2.2.2.2.2.1)))))))))))
    (.leaf (.inr (.inr (x0, x1, x2, (⟨x5.Bank, x5.Validators, x5.Shares, x5.Waits, x5.Next⟩ : Stake))))))
def sh_stake_Good_l2 (x0 : Int) (x1 : Int) (x2 : Int) (x3 : (A6 Validator)) (x4 : Int) (x5 : Stake) : Option ((Bool) ⊕ (Int × Int × Int × Stake)) := iter (fun s : Int × Int × Int × (A6 Validator) × Int × Stake => (T_stake_Good_l2 s.1 s.2.1 s.2.2.1 s.2.2.2.1 s.2.2.2.2.1 s.2.2.2.2.2).run) (x0, x1, x2, x3, x4, x5)
def za78b : Ann := ⟨[([0, 1, 0, 1, 1, 1, 0, 0, 1, 1, 0, 0, 1, 0, 1, 1, 1], zl78a)], [], [], zv78, []⟩
def zq78b : EndD (Int × Int × Int × (A6 Validator) × Int × Stake) := ⟨(LQ.skip (LQ.const (.ptr 0 0)) (LQ.seq (Par.q intP) (LQ.seq (Par.q intP) (LQ.seq (Par.q intP) (LQ.seq (Par.q (Par.ofLP (a6L validatorL))) (LQ.seq (Par.q intP) (LP.q stakeL))))))), ⟨[1, 3, 4, 5, 33, 34], []⟩, [.cells 32 63]⟩
def zq78be0 : EndD (Bool) := ⟨(Par.q boolP), ⟨[2], []⟩, []⟩
def zq78be1 : EndD (Int × Int × Int × Stake) := ⟨(LQ.skip (LQ.const (.ptr 0 0)) (LQ.seq (Par.q intP) (LQ.seq (Par.q intP) (LQ.seq (Par.q intP) (LP.q stakeL))))), ⟨[1, 3, 4, 5], []⟩, [.cells 32 63]⟩
def zl78b : St → Option LR := L2 200 4 0 zq78b .ret zq78be0 (.exit 0) zq78be1 (fun s => T_stake_Good_l2 s.1 s.2.1 s.2.2.1 s.2.2.2.1 s.2.2.2.2.1 s.2.2.2.2.2)
theorem zk78b : PieceOk (zy78).env 0 (sub zc78 [0, 1, 0, 1, 1, 1]) zl78b :=
  loop2 (A := za78b) zh78 Facts.mix ⟨zk78a, trivial⟩ (k := loopB (sub zc78 [0, 1, 0, 1, 1, 1])) (by kernel_rfl) rfl rfl (by rintro ⟨x0, x1, x2, x3, x4, x5⟩; kernel_rfl)
def T_stake_Good_l3 (x0 : Int) (x1 : Int) (x2 : Int) (x3 : (List Wait)) (x4 : Int) (x5 : Int) (x6 : Stake) : Tr ((Int × Int × Int × (List Wait) × Int × Int × Stake) ⊕ ((Bool) ⊕ (Int × Int × Int × Stake))) :=
  (.ite (decide (x5 < x4))
    (.guard ((0 : Int) ≤ x5 ∧ x5 < ((Sl.len (.waits x3) : Nat) : Int))
    (.guard (((decide (x5 > 0)) = true → (((decide (((x3.getD x5.toNat default).Number) < 1)) || (decide (((x3.getD x5.toNat default).Number) ≥ x6.Next))) = false → ((0 : Int) ≤ (IntKind.i64.wrap (x5 - 1)) ∧ (IntKind.i64.wrap (x5 - 1)) < ((Sl.len (.waits x6.Waits) : Nat) : Int)) ∧ True)))
    (.guard (((((((((decide (((x3.getD x5.toNat default).Number) < 1)) || (decide (((x3.getD x5.toNat default).Number) ≥ x6.Next))) || ((decide (x5 > 0)) && (decide (((x6.Waits.getD ((IntKind.i64.wrap (x5 - 1)).toNat) default).Number) ≥ ((x3.getD x5.toNat default).Number))))) || (decide (((x3.getD x5.toNat default).D) < 0))) || (decide (((x3.getD x5.toNat default).D) ≥ 4))) || (decide (((x3.getD x5.toNat default).V) < 0))) || (decide (((x3.getD x5.toNat default).V) ≥ 6))) = false → ((sh_ratio_In ((x3.getD x5.toNat default).Amount)).isSome = true) ∧ True))
    (.ite ((((((((((decide (((x3.getD x5.toNat default).Number) < 1)) || (decide (((x3.getD x5.toNat default).Number) ≥ x6.Next))) || ((decide (x5 > 0)) && (decide (((x6.Waits.getD ((IntKind.i64.wrap (x5 - 1)).toNat) default).Number) ≥ ((x3.getD x5.toNat default).Number))))) || (decide (((x3.getD x5.toNat default).D) < 0))) || (decide (((x3.getD x5.toNat default).D) ≥ 4))) || (decide (((x3.getD x5.toNat default).V) < 0))) || (decide (((x3.getD x5.toNat default).V) ≥ 6))) || (!((sh_ratio_In ((x3.getD x5.toNat default).Amount)).getD default))) || (decide (((x3.getD x5.toNat default).Height) < 0))) || (decide (((x3.getD x5.toNat default).Due) < 0)))
      (.leaf (.inr (.inl false)))
      (.leaf (.inl (x0, IntKind.i64.wrap (x1 + ((x3.getD x5.toNat default).Amount)), x2, x3, x4, IntKind.i64.wrap (x5 + 1), x6)))))))
    (.leaf (.inr (.inr (x0, x1, x2, x6)))))
def sh_stake_Good_l3 (x0 : Int) (x1 : Int) (x2 : Int) (x3 : (List Wait)) (x4 : Int) (x5 : Int) (x6 : Stake) : Option ((Bool) ⊕ (Int × Int × Int × Stake)) := iter (fun s : Int × Int × Int × (List Wait) × Int × Int × Stake => (T_stake_Good_l3 s.1 s.2.1 s.2.2.1 s.2.2.2.1 s.2.2.2.2.1 s.2.2.2.2.2.1 s.2.2.2.2.2.2).run) (x0, x1, x2, x3, x4, x5, x6)
def za78c : Ann := ⟨[], [], [], zv78, []⟩
def zq78c : EndD (Int × Int × Int × (List Wait) × Int × Int × Stake) := ⟨(LQ.skip (LQ.const (.ptr 0 0)) (LQ.seq (Par.q intP) (LQ.seq (Par.q intP) (LQ.seq (Par.q intP) (LQ.seq (Par.q waitsP) (LQ.seq (Par.q intP) (LQ.seq (Par.q intP) (LP.q stakeL)))))))), ⟨[1, 3, 4, 5, 107, 108, 109], [.pub 107, .nilsl 107 (.waits [])]⟩, [.cells 32 63]⟩
def zq78ce0 : EndD (Bool) := ⟨(Par.q boolP), ⟨[2], []⟩, []⟩
def zq78ce1 : EndD (Int × Int × Int × Stake) := ⟨(LQ.skip (LQ.const (.ptr 0 0)) (LQ.seq (Par.q intP) (LQ.seq (Par.q intP) (LQ.seq (Par.q intP) (LP.q stakeL))))), ⟨[1, 3, 4, 5], []⟩, [.cells 32 63]⟩
def zl78c : St → Option LR := L2 200 4 0 zq78c .ret zq78ce0 (.exit 4) zq78ce1 (fun s => T_stake_Good_l3 s.1 s.2.1 s.2.2.1 s.2.2.2.1 s.2.2.2.2.1 s.2.2.2.2.2.1 s.2.2.2.2.2.2)
theorem zk78c : PieceOk (zy78).env 0 (sub zc78 [0, 1, 0, 1, 1, 1, 1]) zl78c :=
  loop2 (A := za78c) zh78 Facts.mix trivial (k := loopB (sub zc78 [0, 1, 0, 1, 1, 1, 1])) (by kernel_rfl) rfl rfl (by rintro ⟨x0, x1, x2, x3, x4, x5, x6⟩; kernel_rfl)
def za78 : Ann := ⟨[([0, 1, 0, 1, 1, 1], zl78b), ([0, 1, 0, 1, 1, 1, 1], zl78c)], [], [], zv78, []⟩
def T_stake_Good (a0 : Stake) : Tr (Bool) :=
  (.bind (sh_bank_Good a0.Bank) fun v1 =>
  (.ite ((((!v1) || (decide (a0.Next < 1))) || (decide (a0.Next > 1125899906842624))) || (decide (((a0.Waits.length : Nat) : Int) > 60)))
    (.leaf false)
    (.two (sh_stake_Good_l2 0 0 0 (⟨(⟨a0.Validators.Tokens.x0, a0.Validators.Shares.x0, a0.Validators.Lost.x0, a0.Validators.Jailed.x0, a0.Validators.Dead.x0⟩ : Validator), (⟨a0.Validators.Tokens.x1, a0.Validators.Shares.x1, a0.Validators.Lost.x1, a0.Validators.Jailed.x1, a0.Validators.Dead.x1⟩ : Validator), (⟨a0.Validators.Tokens.x2, a0.Validators.Shares.x2, a0.Validators.Lost.x2, a0.Validators.Jailed.x2, a0.Validators.Dead.x2⟩ : Validator), (⟨a0.Validators.Tokens.x3, a0.Validators.Shares.x3, a0.Validators.Lost.x3, a0.Validators.Jailed.x3, a0.Validators.Dead.x3⟩ : Validator), (⟨a0.Validators.Tokens.x4, a0.Validators.Shares.x4, a0.Validators.Lost.x4, a0.Validators.Jailed.x4, a0.Validators.Dead.x4⟩ : Validator), (⟨a0.Validators.Tokens.x5, a0.Validators.Shares.x5, a0.Validators.Lost.x5, a0.Validators.Jailed.x5, a0.Validators.Dead.x5⟩ : Validator)⟩ : (A6 Validator)) 0 a0) (fun v6 =>
      (.leaf v6)) (fun v7 =>
      (.two (sh_stake_Good_l3 v7.1 v7.2.1 v7.2.2.1 v7.2.2.2.Waits ((v7.2.2.2.Waits.length : Nat) : Int) 0 v7.2.2.2) (fun v8 =>
        (.leaf v8)) (fun v9 =>
        (.leaf (((v9.1 == v9.2.2.2.Bank.Bonded) && (v9.2.1 == v9.2.2.2.Bank.Waiting)) && (v9.2.2.1 == v9.2.2.2.Bank.Burnt)))))))))
def sh_stake_Good (a0 : Stake) : Option (Bool) := (T_stake_Good a0).run
def zr78 : LQ (Stake) := (Par.q (Par.ofLP stakeL))
def qr_stake_Good : LQ (Bool) := (Par.q boolP)
def F_stake_Good : SpecT := specF 0 zr78 1 [] (fun s => T_stake_Good s) default qr_stake_Good 1 []
theorem ok_stake_Good : SpecOk Tryz.prog 66 (F_stake_Good).spec :=
  specF_ok (A := za78) zh78 Facts.mix Tryz.func66 (c := zc78) (by kernel_rfl) (Lc := 0) ⟨zk78b, zk78c, trivial⟩ zr78 1 4 [] (fun s => T_stake_Good s) default qr_stake_Good 1 [] [] (by decide) (by kernel_rfl) (by rfl) (by decide) (by decide) (by rfl)
    (by rintro a0; kernel_rfl)

noncomputable def zc79 : Code := Tryz.f109.body.getD .skip
def zv79 : List (List Nat) := [[1, 2, 3], [1, 2, 7], [6], [11], [6], [6]]
noncomputable def zy79 : EnvT := ⟨Tryz.prog, lookT [(66, F_stake_Good)]⟩
theorem zh79 : (zy79).Ok := lookT_ok ⟨ok_stake_Good, trivial⟩
def za79 : Ann := ⟨[], [], [], zv79, []⟩
def T_stake_known (a0 : Stake) (a1 : Int) (a2 : Int) : Tr (Int) :=
  (.bind (sh_stake_Good a0) fun v1 =>
  (.ite (!v1)
    (.leaf 2)
    (.ite ((((decide (a1 < 0)) || (decide (a1 ≥ 4))) || (decide (a2 < 0))) || (decide (a2 ≥ 6)))
      (.leaf 4)
      (.leaf 0))))
def sh_stake_known (a0 : Stake) (a1 : Int) (a2 : Int) : Option (Int) := (T_stake_known a0 a1 a2).run
def zr79 : LQ (Stake × Int × Int) := (LQ.seq (Par.q (Par.ofLP stakeL)) (LQ.seq (Par.q intP) (Par.q intP)))
def qr_stake_known : LQ (Int) := (Par.q intP)
def F_stake_known : SpecT := specF 0 zr79 3 [] (fun s => T_stake_known s.1 s.2.1 s.2.2) default qr_stake_known 1 []
theorem ok_stake_known : SpecOk Tryz.prog 109 (F_stake_known).spec :=
  specF_ok (A := za79) zh79 Facts.mix Tryz.func109 (c := zc79) (by kernel_rfl) (Lc := 0) trivial zr79 3 3 [] (fun s => T_stake_known s.1 s.2.1 s.2.2) default qr_stake_known 1 [] [] (by decide) (by kernel_rfl) (by rfl) (by decide) (by decide) (by rfl)
    (by rintro ⟨a0, a1, a2⟩; kernel_rfl)

noncomputable def zc80 : Code := Tryz.f85.body.getD .skip
def zv80 : List (List Nat) := [[1, 2, 3, 4, 8], [1, 2, 3, 4, 8, 10], [1, 2, 3, 4, 8, 10, 22], [8, 9], [1, 2, 3, 4, 8, 11], [1, 2, 3, 4, 8, 11, 31], [8, 9], [1, 2, 3, 4, 8, 11, 38], [8, 9], [1, 2, 3, 4, 8, 11, 12], [1, 2, 3, 4, 8, 11, 12, 45], [1, 2, 3, 4, 8, 11, 50], [8, 9], [1, 2, 3, 4, 8, 11, 13, 14], [1, 2, 3, 4, 8, 11, 13, 75], [8, 9], [1, 2, 3, 4, 8, 11, 12], [1, 2, 3, 4, 8, 11, 12, 79], [8, 9], [1, 2, 3, 4, 8, 11, 12, 15, 16], [1, 2, 3, 4, 8, 11, 12, 15, 16, 90], [8, 9], [1, 2, 3, 4, 8, 11, 12], [1, 2, 4, 8, 12], [4, 8], [8, 9]]
noncomputable def zy80 : EnvT := ⟨Tryz.prog, lookT [(109, F_stake_known), (128, F_ratio_MulDiv), (129, F_bank_Bond)]⟩
theorem zh80 : (zy80).Ok := lookT_ok ⟨ok_stake_known, ok_ratio_MulDiv, ok_bank_Bond, trivial⟩
def za80 : Ann := ⟨[], [], [], zv80, []⟩
def T_stake_Delegate (a0 : Stake) (a1 : Int) (a2 : Int) (a3 : Int) : Tr (Stake × Int) :=
  (.bind (sh_stake_known a0 a1 a2) fun v1 =>
  (.ite (v1 != 0)
    (.leaf (a0, v1))
    (.guard ((0 : Int) ≤ a2 ∧ (a2 : Int) < 6)
    (.ite (a0.Validators.Dead.get a2)
      (.leaf (a0, 15))
      (.ite ((decide (a3 < 1)) || (decide (a3 > 1125899906842624)))
        (.leaf (a0, 2))
        (.ite (decide ((a0.Validators.Shares.get a2) > 0))
          (.ite ((a0.Validators.Tokens.get a2) == 0)
            (.leaf (a0, 8))
            (.guard ((sh_ratio_MulDiv a3 (a0.Validators.Shares.get a2) (a0.Validators.Tokens.get a2)).isSome = true)
            (.ite (((((sh_ratio_MulDiv a3 (a0.Validators.Shares.get a2) (a0.Validators.Tokens.get a2)).getD default).2) != 0) || (decide ((((sh_ratio_MulDiv a3 (a0.Validators.Shares.get a2) (a0.Validators.Tokens.get a2)).getD default).1) > (IntKind.i64.wrap (1125899906842624 - (a0.Validators.Shares.get a2))))))
              (.leaf (a0, 6))
              (.ite ((((sh_ratio_MulDiv a3 (a0.Validators.Shares.get a2) (a0.Validators.Tokens.get a2)).getD default).1) == 0)
                (.leaf (a0, 8))
                (.bind (sh_bank_Bond a0.Bank a1 a3) fun v2 =>
                (.ite (v2.2 != 0)
                  (.leaf (a0, v2.2))
                  (.guard ((0 : Int) ≤ a1 ∧ (a1 : Int) < 4)
                  (.guard ((0 : Int) ≤ a2 ∧ (a2 : Int) < 6)
                  (.guard ((0 : Int) ≤ a1 ∧ (a1 : Int) < 4)
                  (.guard ((0 : Int) ≤ a2 ∧ (a2 : Int) < 6)
                  (.leaf ((⟨v2.1, { (a0.Validators : Validators) with Tokens := (a0.Validators.Tokens.set a2 (IntKind.i64.wrap ((a0.Validators.Tokens.get a2) + a3))), Shares := (a0.Validators.Shares.set a2 (IntKind.i64.wrap ((a0.Validators.Shares.get a2) + (((sh_ratio_MulDiv a3 (a0.Validators.Shares.get a2) (a0.Validators.Tokens.get a2)).getD default).1)))) }, (A46.set a0.Shares a1 a2 (IntKind.i64.wrap ((A46.get a0.Shares a1 a2) + (((sh_ratio_MulDiv a3 (a0.Validators.Shares.get a2) (a0.Validators.Tokens.get a2)).getD default).1)))), a0.Waits, a0.Next⟩ : Stake), 0))))))))))))
          (.ite (a3 == 0)
            (.leaf (a0, 8))
            (.bind (sh_bank_Bond a0.Bank a1 a3) fun v3 =>
            (.ite (v3.2 != 0)
              (.leaf (a0, v3.2))
              (.guard ((0 : Int) ≤ a1 ∧ (a1 : Int) < 4)
              (.guard ((0 : Int) ≤ a2 ∧ (a2 : Int) < 6)
              (.guard ((0 : Int) ≤ a1 ∧ (a1 : Int) < 4)
              (.guard ((0 : Int) ≤ a2 ∧ (a2 : Int) < 6)
              (.leaf ((⟨v3.1, { (a0.Validators : Validators) with Tokens := (a0.Validators.Tokens.set a2 (IntKind.i64.wrap ((a0.Validators.Tokens.get a2) + a3))), Shares := (a0.Validators.Shares.set a2 (IntKind.i64.wrap ((a0.Validators.Shares.get a2) + a3))) }, (A46.set a0.Shares a1 a2 (IntKind.i64.wrap ((A46.get a0.Shares a1 a2) + a3))), a0.Waits, a0.Next⟩ : Stake), 0)))))))))))))))
def sh_stake_Delegate (a0 : Stake) (a1 : Int) (a2 : Int) (a3 : Int) : Option (Stake × Int) := (T_stake_Delegate a0 a1 a2 a3).run
def zr80 : LQ (Stake × Int × Int × Int) := (LQ.seq (Par.q (Par.ofLP stakeL)) (LQ.seq (Par.q intP) (LQ.seq (Par.q intP) (Par.q intP))))
def qr_stake_Delegate : LQ (Stake × Int) := (LQ.seq (Par.q (Par.ofLP stakeL)) (Par.q intP))
def F_stake_Delegate : SpecT := specF 0 zr80 4 [] (fun s => T_stake_Delegate s.1 s.2.1 s.2.2.1 s.2.2.2) default qr_stake_Delegate 2 []
theorem ok_stake_Delegate : SpecOk Tryz.prog 85 (F_stake_Delegate).spec :=
  specF_ok (A := za80) zh80 Facts.mix Tryz.func85 (c := zc80) (by kernel_rfl) (Lc := 0) trivial zr80 4 5 [] (fun s => T_stake_Delegate s.1 s.2.1 s.2.2.1 s.2.2.2) default qr_stake_Delegate 2 [] [.pubB 8] (by decide) (by kernel_rfl) (by rfl) (by decide) (by decide) (by rfl)
    (by rintro ⟨a0, a1, a2, a3⟩; kernel_rfl)

noncomputable def zc82 : Code := Tryz.f81.body.getD .skip
def zv82 : List (List Nat) := [[1, 2, 3, 6], [1, 2, 3, 6, 13], [6], [1, 2, 3, 6], [1, 2, 3, 6, 21, 22], [1, 2, 3, 6, 21, 22, 23], [1, 2, 3, 6, 7, 21, 22], [1, 2, 3, 6, 7, 21, 22, 34], [1, 2, 3, 6, 21, 22], [1, 2, 3, 6, 21, 22], [6]]
noncomputable def zy82 : EnvT := ⟨Tryz.prog, lookT [(80, F_slices_Clone_api_Wait)]⟩
theorem zh82 : (zy82).Ok := lookT_ok ⟨ok_slices_Clone_api_Wait, trivial⟩
def T_stake_Release_l1 (x0 : Int) (x1 : Int) (x2 : Int) (x3 : Int) (x4 : Stake) (x5 : Stake) : Tr ((Int × Int × Int × Int × Stake × Stake) ⊕ (Stake × Stake)) :=
  (.ite (decide (x3 < x2))
    (.guard ((0 : Int) ≤ x3 ∧ x3 < ((Sl.len (.waits x4.Waits) : Nat) : Int))
    (.guard ((0 : Int) ≤ x0 ∧ (x0 : Int) < 2)
    (.ite (decide ((A2.get ⟨(x4.Waits.getD x3.toNat default).h0, (x4.Waits.getD x3.toNat default).h1⟩ x0) ≤ x1))
      (.guard ((0 : Int) ≤ x3 ∧ x3 < ((Sl.len (.waits x4.Waits) : Nat) : Int))
      (.guard ((0 : Int) ≤ x0 ∧ (x0 : Int) < 2)
      (.leaf (.inl (x0, x1, x2, IntKind.i64.wrap (x3 + 1), { (x4 : Stake) with Waits := x4.Waits.set x3.toNat ({ ((x4.Waits.getD x3.toNat default) : Wait) with h0 := if x0 = 0 then 0 else (x4.Waits.getD x3.toNat default).h0, h1 := if x0 = 1 then 0 else (x4.Waits.getD x3.toNat default).h1 }) }, x5)))))
      (.leaf (.inl (x0, x1, x2, IntKind.i64.wrap (x3 + 1), x4, x5))))))
    (.leaf (.inr (x4, x5))))
def sh_stake_Release_l1 (x0 : Int) (x1 : Int) (x2 : Int) (x3 : Int) (x4 : Stake) (x5 : Stake) : Option (Stake × Stake) := iter (fun s : Int × Int × Int × Int × Stake × Stake => (T_stake_Release_l1 s.1 s.2.1 s.2.2.1 s.2.2.2.1 s.2.2.2.2.1 s.2.2.2.2.2).run) (x0, x1, x2, x3, x4, x5)
def za82a : Ann := ⟨[], [], [], zv82, []⟩
def zq82a : EndD (Int × Int × Int × Int × Stake × Stake) := ⟨(LQ.map (LQ.seq (Par.q intP) (LQ.seq (Par.q intP) (LQ.skip (LQ.const (.ptr 0 0)) (LQ.skip (LQ.const (.ptr 1 0)) (LQ.seq (Par.q intP) (LQ.seq (Par.q intP) (LQ.seq (LP.q bankL) (LQ.seq (LP.q validatorsL) (LQ.seq (LP.q (a4L (a6L (LP.one intP)))) (LQ.skip (LQ.const (.own 2)) (LQ.seq (Par.q intP) (LQ.seq (LP.q stakeL) (Par.q waitsP))))))))))))) (fun x : Int × Int × Int × Int × Bank × Validators × (A4 (A6 Int)) × Int × Stake × (List Wait) => ((x.1, x.2.1, x.2.2.1, x.2.2.2.1, (⟨x.2.2.2.2.1, x.2.2.2.2.2.1, x.2.2.2.2.2.2.1, x.2.2.2.2.2.2.2.2.2, x.2.2.2.2.2.2.2.1⟩ : Stake), x.2.2.2.2.2.2.2.2.1) : Int × Int × Int × Int × Stake × Stake)) (fun y => (y.1, y.2.1, y.2.2.1, y.2.2.2.1, y.2.2.2.2.1.Bank, y.2.2.2.2.1.Validators, y.2.2.2.2.1.Shares, y.2.2.2.2.1.Next, y.2.2.2.2.2, y.2.2.2.2.1.Waits)) (fun _ => rfl)), ⟨[1, 2, 3, 6, 21, 22], [.nilcell 3 61 81 (.waits [])]⟩, [.cells 32 63, .cells 32 63, .rows 81]⟩
def zq82ae0 : EndD (Stake × Stake) := ⟨(LQ.map (LQ.skip (LQ.const (.ptr 0 0)) (LQ.skip (LQ.const (.ptr 1 0)) (LQ.seq (LP.q bankL) (LQ.seq (LP.q validatorsL) (LQ.seq (LP.q (a4L (a6L (LP.one intP)))) (LQ.skip (LQ.const (.own 2)) (LQ.seq (Par.q intP) (LQ.seq (LP.q stakeL) (Par.q waitsP))))))))) (fun x : Bank × Validators × (A4 (A6 Int)) × Int × Stake × (List Wait) => (((⟨x.1, x.2.1, x.2.2.1, x.2.2.2.2.2, x.2.2.2.1⟩ : Stake), x.2.2.2.2.1) : Stake × Stake)) (fun y => (y.1.Bank, y.1.Validators, y.1.Shares, y.1.Next, y.2, y.1.Waits)) (fun _ => rfl)), ⟨[3, 6], [.nilcell 3 61 81 (.waits [])]⟩, [.cells 32 63, .cells 32 63, .rows 81]⟩
def zl82a : St → Option LR := L1 44 5 0 zq82a (.exit 0) zq82ae0 (fun s => T_stake_Release_l1 s.1 s.2.1 s.2.2.1 s.2.2.2.1 s.2.2.2.2.1 s.2.2.2.2.2)
theorem zk82a : PieceOk (zy82).env 0 (sub zc82 [0, 1, 0, 1, 1, 1]) zl82a :=
  loop1 (A := za82a) zh82 Facts.mix trivial (k := loopB (sub zc82 [0, 1, 0, 1, 1, 1])) (by kernel_rfl) rfl (by rintro ⟨x0, x1, x2, x3, x4, x5⟩; kernel_rfl)
def za82 : Ann := ⟨[([0, 1, 0, 1, 1, 1], zl82a)], [], [], zv82, []⟩
def T_stake_Release (a0 : Stake) (a1 : Int) (a2 : Int) : Tr (Stake) :=
  (.ite ((decide (a1 < 0)) || (decide (a1 ≥ 2)))
    (.leaf a0)
    (.bind (sh_slices_Clone_api_Wait a0.Waits) fun v1 =>
    (.bind (sh_stake_Release_l1 a1 a2 ((v1.length : Nat) : Int) 0 ({ (a0 : Stake) with Waits := v1 }) (default : Stake)) fun v2 =>
    (.leaf v2.1))))
def sh_stake_Release (a0 : Stake) (a1 : Int) (a2 : Int) : Option (Stake) := (T_stake_Release a0 a1 a2).run
def zr82 : LQ (Stake × Int × Int) := (LQ.seq (Par.q (Par.ofLP stakeL)) (LQ.seq (Par.q intP) (Par.q intP)))
def qr_stake_Release : LQ (Stake) := (Par.q (Par.ofLP stakeL))
def F_stake_Release : SpecT := specF 0 zr82 3 [] (fun s => T_stake_Release s.1 s.2.1 s.2.2) default qr_stake_Release 1 []
theorem ok_stake_Release : SpecOk Tryz.prog 81 (F_stake_Release).spec :=
  specF_ok (A := za82) zh82 Facts.mix Tryz.func81 (c := zc82) (by kernel_rfl) (Lc := 0) ⟨zk82a, trivial⟩ zr82 3 5 [] (fun s => T_stake_Release s.1 s.2.1 s.2.2) default qr_stake_Release 1 [] [.pubB 6] (by decide) (by kernel_rfl) (by rfl) (by decide) (by decide) (by rfl)
    (by rintro ⟨a0, a1, a2⟩; kernel_rfl)

noncomputable def zc83 : Code := Tryz.f46.body.getD .skip
def zv83 : List (List Nat) := [[1, 2, 4], [1, 2, 4, 15], [4, 5, 6], [1, 2, 4, 7], [1, 2, 4, 7, 8], [1, 2, 4, 7, 8, 18, 19, 20], [1, 2, 4, 7, 8, 18, 19, 20, 21], [1, 2, 4, 7, 8, 10, 18, 19, 20], [1, 2, 4, 7, 8, 10, 18, 19, 20, 33], [1, 2, 4, 7, 8, 18, 19, 20], [1, 2, 4, 7, 8, 10, 11, 12, 18, 19, 20], [1, 2, 4, 7, 8, 10, 11, 12, 18, 19, 20, 49], [4, 5, 6], [1, 2, 4, 7, 8, 10, 18, 19, 20], [1, 2, 4, 7, 8, 18, 19, 20], [1, 2, 4, 7, 8, 18, 19, 20], [2, 4, 8], [4, 5, 6]]
noncomputable def zy83 : EnvT := ⟨Tryz.prog, lookT [(66, F_stake_Good), (102, F_bank_Pay)]⟩
theorem zh83 : (zy83).Ok := lookT_ok ⟨ok_stake_Good, ok_bank_Pay, trivial⟩
def T_stake_Pay_l1 (x0 : Int) (x1 : (List Wait)) (x2 : Int) (x3 : Int) (x4 : Stake) (x5 : Stake) (x6 : (List Wait)) (x7 : (List Int)) : Tr ((Int × (List Wait) × Int × Int × Stake × Stake × (List Wait) × (List Int)) ⊕ (((List Int) × Int × Stake) ⊕ (Stake × Stake × (List Wait) × (List Int)))) :=
  (.ite (decide (x3 < x2))
    (.guard ((0 : Int) ≤ x3 ∧ x3 < ((Sl.len (.waits x1) : Nat) : Int))
    (.ite ((decide (((x1.getD x3.toNat default).Due) > x0)) || (!((((x1.getD x3.toNat default).h0) == 0) && ((((x1.getD x3.toNat default).h1) == 0) && true))))
      (.guard ((Sl.len (.waits x6) + Sl.len (.waits [(x1.getD x3.toNat default)])) * 64 ≤ 140737488355328)
      (.leaf (.inl (x0, x1, x2, IntKind.i64.wrap (x3 + 1), x4, x5, x6 ++ [(x1.getD x3.toNat default)], x7))))
      (.bind (sh_bank_Pay x4.Bank ((x1.getD x3.toNat default).D) ((x1.getD x3.toNat default).Amount)) fun v2 =>
      (.ite (v2.2 != 0)
        (.leaf (.inr (.inl ([], v2.2, x4))))
        (.guard ((Sl.len (.ints x7) + Sl.len (.ints [(x1.getD x3.toNat default).Number])) * 8 ≤ 140737488355328)
        (.leaf (.inl (x0, x1, x2, IntKind.i64.wrap (x3 + 1), { (x4 : Stake) with Bank := v2.1 }, x5, x6, x7 ++ [(x1.getD x3.toNat default).Number]))))))))
    (.leaf (.inr (.inr (x4, x5, x6, x7)))))
def sh_stake_Pay_l1 (x0 : Int) (x1 : (List Wait)) (x2 : Int) (x3 : Int) (x4 : Stake) (x5 : Stake) (x6 : (List Wait)) (x7 : (List Int)) : Option (((List Int) × Int × Stake) ⊕ (Stake × Stake × (List Wait) × (List Int))) := iter (fun s : Int × (List Wait) × Int × Int × Stake × Stake × (List Wait) × (List Int) => (T_stake_Pay_l1 s.1 s.2.1 s.2.2.1 s.2.2.2.1 s.2.2.2.2.1 s.2.2.2.2.2.1 s.2.2.2.2.2.2.1 s.2.2.2.2.2.2.2).run) (x0, x1, x2, x3, x4, x5, x6, x7)
def za83a : Ann := ⟨[], [], [], zv83, []⟩
def zq83a : EndD (Int × (List Wait) × Int × Int × Stake × Stake × (List Wait) × (List Int)) := ⟨(LQ.seq (Par.q intP) (LQ.skip (LQ.const (.ptr 0 0)) (LQ.skip (LQ.const (.ptr 1 0)) (LQ.skip (LQ.const (.own 2)) (LQ.skip (LQ.const (.own 3)) (LQ.seq (Par.q waitsP) (LQ.seq (Par.q intP) (LQ.seq (Par.q intP) (LQ.seq (LP.q stakeL) (LQ.seq (LP.q stakeL) (LQ.seq (Par.q waitsP) (Par.q intsP)))))))))))), ⟨[1, 2, 4, 7, 8, 18, 19, 20], [.nilown 7 81 (.waits []), .nilown 8 3 (.ints []), .pub 18, .nilsl 18 (.waits [])]⟩, [.cells 32 63, .cells 32 63, .rows 81, .rows 3]⟩
def zq83ae0 : EndD ((List Int) × Int × Stake) := ⟨(LQ.skip (LQ.const (.ptr 0 0)) (LQ.seq (Par.q intsP) (LQ.seq (Par.q intP) (LP.q stakeL)))), ⟨[4, 5, 6], [.pubB 4, .pub 5, .nilsl 5 (.ints [])]⟩, [.cells 32 63]⟩
def zq83ae1 : EndD (Stake × Stake × (List Wait) × (List Int)) := ⟨(LQ.skip (LQ.const (.ptr 0 0)) (LQ.skip (LQ.const (.ptr 1 0)) (LQ.skip (LQ.const (.own 2)) (LQ.skip (LQ.const (.own 3)) (LQ.seq (LP.q stakeL) (LQ.seq (LP.q stakeL) (LQ.seq (Par.q waitsP) (Par.q intsP)))))))), ⟨[2, 4, 7, 8], [.nilown 7 81 (.waits []), .nilown 8 3 (.ints [])]⟩, [.cells 32 63, .cells 32 63, .rows 81, .rows 3]⟩
def zl83a : St → Option LR := L2 64 10 0 zq83a .ret zq83ae0 (.exit 0) zq83ae1 (fun s => T_stake_Pay_l1 s.1 s.2.1 s.2.2.1 s.2.2.2.1 s.2.2.2.2.1 s.2.2.2.2.2.1 s.2.2.2.2.2.2.1 s.2.2.2.2.2.2.2)
theorem zk83a : PieceOk (zy83).env 0 (sub zc83 [0, 1, 0, 1, 1, 1, 1]) zl83a :=
  loop2 (A := za83a) zh83 Facts.mix trivial (k := loopB (sub zc83 [0, 1, 0, 1, 1, 1, 1])) (by kernel_rfl) rfl rfl (by rintro ⟨x0, x1, x2, x3, x4, x5, x6, x7⟩; kernel_rfl)
def za83 : Ann := ⟨[([0, 1, 0, 1, 1, 1, 1], zl83a)], [], [], zv83, []⟩
def T_stake_Pay (a0 : Stake) (a1 : Int) : Tr (Stake × (List Int) × Int) :=
  (.bind (sh_stake_Good a0) fun v1 =>
  (.ite (!v1)
    (.leaf (a0, [], 2))
    (.two (sh_stake_Pay_l1 a1 a0.Waits ((a0.Waits.length : Nat) : Int) 0 a0 (default : Stake) [] []) (fun v3 =>
      (.leaf (v3.2.2, v3.1, v3.2.1))) (fun v4 =>
      (.leaf ({ (v4.1 : Stake) with Waits := v4.2.2.1 }, v4.2.2.2, 0))))))
def sh_stake_Pay (a0 : Stake) (a1 : Int) : Option (Stake × (List Int) × Int) := (T_stake_Pay a0 a1).run
def zr83 : LQ (Stake × Int) := (LQ.seq (Par.q (Par.ofLP stakeL)) (Par.q intP))
def qr_stake_Pay : LQ (Stake × (List Int) × Int) := (LQ.seq (Par.q (Par.ofLP stakeL)) (LQ.seq (Par.q intsP) (Par.q intP)))
def F_stake_Pay : SpecT := specF 0 zr83 2 [] (fun s => T_stake_Pay s.1 s.2) default qr_stake_Pay 3 []
theorem ok_stake_Pay : SpecOk Tryz.prog 46 (F_stake_Pay).spec :=
  specF_ok (A := za83) zh83 Facts.mix Tryz.func46 (c := zc83) (by kernel_rfl) (Lc := 0) ⟨zk83a, trivial⟩ zr83 2 10 [] (fun s => T_stake_Pay s.1 s.2) default qr_stake_Pay 3 [] [.pubB 4, .pub 5] (by decide) (by kernel_rfl) (by rfl) (by decide) (by decide) (by rfl)
    (by rintro ⟨a0, a1⟩; kernel_rfl)

noncomputable def zc84 : Code := Tryz.f60.body.getD .skip
def zv84 : List (List Nat) := [[1, 2, 3, 4, 8], [1, 2, 3, 4, 8, 11], [1, 2, 3, 4, 8, 11, 26], [8, 9, 10], [1, 2, 3, 4, 8, 12], [1, 2, 3, 4, 8, 12, 13, 14], [1, 2, 3, 4, 8, 12, 13, 14, 42], [8, 9, 10], [1, 2, 3, 4, 8, 12, 13, 15], [1, 2, 3, 4, 8, 12, 13, 15, 16], [1, 2, 3, 4, 8, 12, 13, 15, 16, 49, 50], [1, 2, 3, 4, 8, 12, 13, 15, 16, 49, 50, 51], [1, 2, 3, 4, 8, 12, 13, 15, 16, 17, 49, 50], [1, 2, 3, 4, 8, 12, 13, 15, 16, 18, 49, 50], [1, 2, 3, 4, 8, 12, 13, 15, 16, 18, 49, 50, 69], [1, 2, 3, 4, 8, 12, 13, 15, 16, 18, 19, 49, 50], [1, 2, 3, 4, 8, 12, 13, 15, 16, 19, 49, 50], [1, 2, 3, 4, 8, 12, 13, 15, 16, 49, 50], [1, 2, 3, 4, 8, 12, 13, 15, 16, 49, 50], [4, 8, 12, 13, 14, 15, 16, 21], [4, 8, 12, 13, 14, 15, 16, 21, 100], [8, 9, 10], [4, 8, 12, 13, 16], [4, 8, 13, 16], [8, 9, 10]]
noncomputable def zy84 : EnvT := ⟨Tryz.prog, lookT [(109, F_stake_known), (110, F_ratio_Part), (80, F_slices_Clone_api_Wait), (111, F_bank_Burn)]⟩
theorem zh84 : (zy84).Ok := lookT_ok ⟨ok_stake_known, ok_ratio_Part, ok_slices_Clone_api_Wait, ok_bank_Burn, trivial⟩
def T_stake_Slash_l1 (x0 : Int) (x1 : Int) (x2 : Int) (x3 : Int) (x4 : Int) (x5 : Int) (x6 : Int) (x7 : Int) (x8 : Stake) (x9 : Stake) (x10 : (List Wait)) : Tr ((Int × Int × Int × Int × Int × Int × Int × Int × Stake × Stake × (List Wait)) ⊕ (Int × Int × Int × Stake × Stake × (List Wait))) :=
  (.ite (decide (x7 < x6))
    (.guard ((0 : Int) ≤ x7 ∧ x7 < ((Sl.len (.waits x10) : Nat) : Int))
    (.ite ((((x10.getD x7.toNat default).V) == x0) && (decide (((x10.getD x7.toNat default).Height) ≥ x1)))
      (.bind (sh_ratio_Part ((x10.getD x7.toNat default).Amount) x2) fun v4 =>
      (.leaf (.inl (x0, x1, x2, x3, x4, IntKind.i64.wrap (x5 + v4.1), x6, IntKind.i64.wrap (x7 + 1), x8, x9, x10.set x7.toNat ({ ((x10.getD x7.toNat default) : Wait) with Amount := IntKind.i64.wrap (((x10.getD x7.toNat default).Amount) - v4.1) })))))
      (.leaf (.inl (x0, x1, x2, x3, x4, x5, x6, IntKind.i64.wrap (x7 + 1), x8, x9, x10)))))
    (.leaf (.inr (x3, x4, x5, x8, x9, x10))))
def sh_stake_Slash_l1 (x0 : Int) (x1 : Int) (x2 : Int) (x3 : Int) (x4 : Int) (x5 : Int) (x6 : Int) (x7 : Int) (x8 : Stake) (x9 : Stake) (x10 : (List Wait)) : Option (Int × Int × Int × Stake × Stake × (List Wait)) := iter (fun s : Int × Int × Int × Int × Int × Int × Int × Int × Stake × Stake × (List Wait) => (T_stake_Slash_l1 s.1 s.2.1 s.2.2.1 s.2.2.2.1 s.2.2.2.2.1 s.2.2.2.2.2.1 s.2.2.2.2.2.2.1 s.2.2.2.2.2.2.2.1 s.2.2.2.2.2.2.2.2.1 s.2.2.2.2.2.2.2.2.2.1 s.2.2.2.2.2.2.2.2.2.2).run) (x0, x1, x2, x3, x4, x5, x6, x7, x8, x9, x10)
def za84a : Ann := ⟨[], [], [], zv84, []⟩
def zq84a : EndD (Int × Int × Int × Int × Int × Int × Int × Int × Stake × Stake × (List Wait)) := ⟨(LQ.seq (Par.q intP) (LQ.seq (Par.q intP) (LQ.seq (Par.q intP) (LQ.skip (LQ.const (.ptr 0 0)) (LQ.skip (LQ.const (.ptr 1 0)) (LQ.seq (LQ.pix1 0 7 6 5 0) (LQ.seq (Par.q intP) (LQ.skip (LQ.const (.own 2)) (LQ.seq (Par.q intP) (LQ.seq (Par.q intP) (LQ.seq (Par.q intP) (LQ.seq (LP.q stakeL) (LQ.seq (LP.q stakeL) (Par.q waitsP)))))))))))))), ⟨[1, 2, 3, 4, 8, 12, 13, 15, 16, 49, 50], [.nilown 15 81 (.waits [])]⟩, [.cells 32 63, .cells 32 63, .rows 81]⟩
def zq84ae0 : EndD (Int × Int × Int × Stake × Stake × (List Wait)) := ⟨(LQ.skip (LQ.const (.ptr 0 0)) (LQ.skip (LQ.const (.ptr 1 0)) (LQ.seq (LQ.pix1 0 7 6 5 0) (LQ.seq (Par.q intP) (LQ.skip (LQ.const (.own 2)) (LQ.seq (Par.q intP) (LQ.seq (LP.q stakeL) (LQ.seq (LP.q stakeL) (Par.q waitsP))))))))), ⟨[4, 8, 12, 13, 15, 16], [.nilown 15 81 (.waits [])]⟩, [.cells 32 63, .cells 32 63, .rows 81]⟩
def zl84a : St → Option LR := L1 131 6 0 zq84a (.exit 0) zq84ae0 (fun s => T_stake_Slash_l1 s.1 s.2.1 s.2.2.1 s.2.2.2.1 s.2.2.2.2.1 s.2.2.2.2.2.1 s.2.2.2.2.2.2.1 s.2.2.2.2.2.2.2.1 s.2.2.2.2.2.2.2.2.1 s.2.2.2.2.2.2.2.2.2.1 s.2.2.2.2.2.2.2.2.2.2)
theorem zk84a : PieceOk (zy84).env 0 (sub zc84 [0, 1, 0, 1, 1, 1, 1, 1, 1, 1]) zl84a :=
  loop1 (A := za84a) zh84 Facts.mix trivial (k := loopB (sub zc84 [0, 1, 0, 1, 1, 1, 1, 1, 1, 1])) (by kernel_rfl) rfl (by rintro ⟨x0, x1, x2, x3, x4, x5, x6, x7, x8, x9, x10⟩; kernel_rfl)
def za84 : Ann := ⟨[([0, 1, 0, 1, 1, 1, 1, 1, 1, 1], zl84a)], [], [], zv84, []⟩
def T_stake_Slash (a0 : Stake) (a1 : Int) (a2 : Int) (a3 : Int) : Tr (Stake × Int × Int) :=
  (.bind (sh_stake_known a0 0 a1) fun v1 =>
  (.ite (v1 != 0)
    (.leaf (a0, 0, v1))
    (.guard ((0 : Int) ≤ a1 ∧ (a1 : Int) < 6)
    (.bind (sh_ratio_Part (a0.Validators.Tokens.get a1) a3) fun v2 =>
    (.ite (v2.2 != 0)
      (.leaf (a0, 0, v2.2))
      (.bind (sh_slices_Clone_api_Wait a0.Waits) fun v3 =>
      (.bind (sh_stake_Slash_l1 a1 a2 a3 a1 v2.1 0 ((v3.length : Nat) : Int) 0 a0 (default : Stake) v3) fun v5 =>
      (.bind (sh_bank_Burn v5.2.2.2.1.Bank v5.2.1 v5.2.2.1) fun v6 =>
      (.ite (v6.2 != 0)
        (.leaf (v5.2.2.2.1, 0, v6.2))
        (.leaf ((⟨v6.1, { (v5.2.2.2.1.Validators : Validators) with Tokens := (v5.2.2.2.1.Validators.Tokens.set v5.1 (IntKind.i64.wrap ((v5.2.2.2.1.Validators.Tokens.get v5.1) - v5.2.1))), Lost := (v5.2.2.2.1.Validators.Lost.set v5.1 (IntKind.i64.wrap ((IntKind.i64.wrap ((v5.2.2.2.1.Validators.Lost.get v5.1) + v5.2.1)) + v5.2.2.1))) }, v5.2.2.2.1.Shares, v5.2.2.2.2.2, v5.2.2.2.1.Next⟩ : Stake), IntKind.i64.wrap (v5.2.1 + v5.2.2.1), 0)))))))))))
def sh_stake_Slash (a0 : Stake) (a1 : Int) (a2 : Int) (a3 : Int) : Option (Stake × Int × Int) := (T_stake_Slash a0 a1 a2 a3).run
def zr84 : LQ (Stake × Int × Int × Int) := (LQ.seq (Par.q (Par.ofLP stakeL)) (LQ.seq (Par.q intP) (LQ.seq (Par.q intP) (Par.q intP))))
def qr_stake_Slash : LQ (Stake × Int × Int) := (LQ.seq (Par.q (Par.ofLP stakeL)) (LQ.seq (Par.q intP) (Par.q intP)))
def F_stake_Slash : SpecT := specF 0 zr84 4 [] (fun s => T_stake_Slash s.1 s.2.1 s.2.2.1 s.2.2.2) default qr_stake_Slash 3 []
theorem ok_stake_Slash : SpecOk Tryz.prog 60 (F_stake_Slash).spec :=
  specF_ok (A := za84) zh84 Facts.mix Tryz.func60 (c := zc84) (by kernel_rfl) (Lc := 0) ⟨zk84a, trivial⟩ zr84 4 6 [] (fun s => T_stake_Slash s.1 s.2.1 s.2.2.1 s.2.2.2) default qr_stake_Slash 3 [] [.pubB 8] (by decide) (by kernel_rfl) (by rfl) (by decide) (by decide) (by rfl)
    (by rintro ⟨a0, a1, a2, a3⟩; kernel_rfl)

noncomputable def zc85 : Code := Tryz.f98.body.getD .skip
def zv85 : List (List Nat) := [[1, 2, 4], [1, 2, 4, 6], [1, 2, 4, 6, 11], [4, 5], [1, 2, 4, 18], [4, 5], [2, 4], [4, 5]]
noncomputable def zy85 : EnvT := ⟨Tryz.prog, lookT [(109, F_stake_known)]⟩
theorem zh85 : (zy85).Ok := lookT_ok ⟨ok_stake_known, trivial⟩
def za85 : Ann := ⟨[], [], [], zv85, []⟩
def T_stake_Jail (a0 : Stake) (a1 : Int) : Tr (Stake × Int) :=
  (.bind (sh_stake_known a0 0 a1) fun v1 =>
  (.ite (v1 != 0)
    (.leaf (a0, v1))
    (.guard ((0 : Int) ≤ a1 ∧ (a1 : Int) < 6)
    (.ite (a0.Validators.Jailed.get a1)
      (.leaf (a0, 14))
      (.guard ((0 : Int) ≤ a1 ∧ (a1 : Int) < 6)
      (.leaf ({ (a0 : Stake) with Validators := { (a0.Validators : Validators) with Jailed := (a0.Validators.Jailed.set a1 true) } }, 0)))))))
def sh_stake_Jail (a0 : Stake) (a1 : Int) : Option (Stake × Int) := (T_stake_Jail a0 a1).run
def zr85 : LQ (Stake × Int) := (LQ.seq (Par.q (Par.ofLP stakeL)) (Par.q intP))
def qr_stake_Jail : LQ (Stake × Int) := (LQ.seq (Par.q (Par.ofLP stakeL)) (Par.q intP))
def F_stake_Jail : SpecT := specF 0 zr85 2 [] (fun s => T_stake_Jail s.1 s.2) default qr_stake_Jail 2 []
theorem ok_stake_Jail : SpecOk Tryz.prog 98 (F_stake_Jail).spec :=
  specF_ok (A := za85) zh85 Facts.mix Tryz.func98 (c := zc85) (by kernel_rfl) (Lc := 0) trivial zr85 2 4 [] (fun s => T_stake_Jail s.1 s.2) default qr_stake_Jail 2 [] [.pubB 4] (by decide) (by kernel_rfl) (by rfl) (by decide) (by decide) (by rfl)
    (by rintro ⟨a0, a1⟩; kernel_rfl)

noncomputable def zc86 : Code := Tryz.f61.body.getD .skip
def zv86 : List (List Nat) := [[1, 2, 4], [1, 2, 4, 6], [1, 2, 4, 6, 11], [4, 5], [1, 2, 4, 18], [4, 5], [2, 4], [4, 5]]
noncomputable def zy86 : EnvT := ⟨Tryz.prog, lookT [(109, F_stake_known)]⟩
theorem zh86 : (zy86).Ok := lookT_ok ⟨ok_stake_known, trivial⟩
def za86 : Ann := ⟨[], [], [], zv86, []⟩
def T_stake_Bury (a0 : Stake) (a1 : Int) : Tr (Stake × Int) :=
  (.bind (sh_stake_known a0 0 a1) fun v1 =>
  (.ite (v1 != 0)
    (.leaf (a0, v1))
    (.guard ((0 : Int) ≤ a1 ∧ (a1 : Int) < 6)
    (.ite (a0.Validators.Dead.get a1)
      (.leaf (a0, 15))
      (.guard ((0 : Int) ≤ a1 ∧ (a1 : Int) < 6)
      (.guard ((0 : Int) ≤ a1 ∧ (a1 : Int) < 6)
      (.leaf ({ (a0 : Stake) with Validators := { (a0.Validators : Validators) with Jailed := (a0.Validators.Jailed.set a1 true), Dead := (a0.Validators.Dead.set a1 true) } }, 0))))))))
def sh_stake_Bury (a0 : Stake) (a1 : Int) : Option (Stake × Int) := (T_stake_Bury a0 a1).run
def zr86 : LQ (Stake × Int) := (LQ.seq (Par.q (Par.ofLP stakeL)) (Par.q intP))
def qr_stake_Bury : LQ (Stake × Int) := (LQ.seq (Par.q (Par.ofLP stakeL)) (Par.q intP))
def F_stake_Bury : SpecT := specF 0 zr86 2 [] (fun s => T_stake_Bury s.1 s.2) default qr_stake_Bury 2 []
theorem ok_stake_Bury : SpecOk Tryz.prog 61 (F_stake_Bury).spec :=
  specF_ok (A := za86) zh86 Facts.mix Tryz.func61 (c := zc86) (by kernel_rfl) (Lc := 0) trivial zr86 2 4 [] (fun s => T_stake_Bury s.1 s.2) default qr_stake_Bury 2 [] [.pubB 4] (by decide) (by kernel_rfl) (by rfl) (by decide) (by decide) (by rfl)
    (by rintro ⟨a0, a1⟩; kernel_rfl)

end
end Go.Proofs.YtknbejjfejdppaaGreat.Ab
