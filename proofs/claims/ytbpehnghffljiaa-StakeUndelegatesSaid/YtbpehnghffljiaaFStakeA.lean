/-
  The functions, each by its tree.
-/
import Derived.Test.YtbpehnghffljiaaFacts
import Derived.Test.YtbpehnghffljiaaAbStructs
import Derived.Test.YtbpehnghffljiaaAbFun
import Derived.Test.YtbpehnghffljiaaFRatio
import Derived.Test.YtbpehnghffljiaaFBank
namespace Go.Proofs.Ytbpehnghffljiaa.Ab
open Go Go.RowKit
set_option maxRecDepth 100000
set_option linter.unusedVariables false
set_option linter.unusedSimpArgs false
noncomputable section

noncomputable def zc39 : Code := Try.f73.body.getD .skip
def zv39 : List (List Nat) := [[0], [0, 4], [2], [2]]
noncomputable def zy39 : EnvT := ⟨Try.prog, lookT []⟩
theorem zh39 : (zy39).Ok := lookT_ok trivial
def za39 : Ann := ⟨[], [], [], zv39, []⟩
def T_slices_Clone_api_Wait (a0 : (List Wait)) : Tr ((List Wait)) :=
  (.split (Sl.len (.waits a0) = 0) (True)
    (.leaf [])
    (.guard ((Sl.len (.waits []) + Sl.len (.waits a0)) * 64 ≤ 140737488355328)
    (.leaf a0)))
def sh_slices_Clone_api_Wait (a0 : (List Wait)) : Option ((List Wait)) := (T_slices_Clone_api_Wait a0).run
def zr39 : LQ ((List Wait)) := (Par.q waitsP)
def qr_slices_Clone_api_Wait : LQ ((List Wait)) := (LQ.skip (LQ.const (.own 0)) (Par.q waitsP))
def F_slices_Clone_api_Wait : SpecT := specF 0 zr39 1 [] (fun s => T_slices_Clone_api_Wait s) default qr_slices_Clone_api_Wait 1 [.rows 51]
theorem ok_slices_Clone_api_Wait : SpecOk Try.prog 73 (F_slices_Clone_api_Wait).spec :=
  specF_ok (A := za39) zh39 Facts.mix Try.func73 (c := zc39) (by kernel_rfl) (Lc := 0) trivial zr39 1 5 [] (fun s => T_slices_Clone_api_Wait s) default qr_slices_Clone_api_Wait 1 [.rows 51] [.nilown 2 51 (.waits [])] (by decide) (by kernel_rfl) (by rfl) (by decide) (by decide) (by rfl)
    (by rintro a0; kernel_rfl)

noncomputable def zc40 : Code := Try.f21.body.getD .skip
def zv40 : List (List Nat) := [[0], [0]]
noncomputable def zy40 : EnvT := ⟨Try.prog, lookT [(62, F_bank_New)]⟩
theorem zh40 : (zy40).Ok := lookT_ok ⟨ok_bank_New, trivial⟩
def za40 : Ann := ⟨[], [], [], zv40, []⟩
def T_stake_New  : Tr (Stake) :=
  (.bind (sh_bank_New) fun v1 =>
  (.leaf (⟨v1, (default : Validators), (⟨(⟨0, 0, 0, 0, 0, 0⟩ : (A6 Int)), (⟨0, 0, 0, 0, 0, 0⟩ : (A6 Int)), (⟨0, 0, 0, 0, 0, 0⟩ : (A6 Int)), (⟨0, 0, 0, 0, 0, 0⟩ : (A6 Int))⟩ : (A4 (A6 Int))), [], 1⟩ : Stake)))
def sh_stake_New  : Option (Stake) := (T_stake_New ).run
def zr40 : LQ (Unit) := LQ.nil
def qr_stake_New : LQ (Stake) := (Par.q (Par.ofLP stakeL))
def F_stake_New : SpecT := specF 0 zr40 0 [] (fun s => T_stake_New ) default qr_stake_New 1 []
theorem ok_stake_New : SpecOk Try.prog 21 (F_stake_New).spec :=
  specF_ok (A := za40) zh40 Facts.mix Try.func21 (c := zc40) (by kernel_rfl) (Lc := 0) trivial zr40 0 3 [] (fun s => T_stake_New ) default qr_stake_New 1 [] [.pubB 0] (by decide) (by kernel_rfl) (by rfl) (by decide) (by decide) (by rfl)
    (by rintro _; kernel_rfl)

noncomputable def zc41 : Code := Try.f19.body.getD .skip
def zv41 : List (List Nat) := [[1], [1, 31], [2], [1, 3, 4, 5], [1, 3, 4, 5, 33, 34], [1, 3, 4, 5, 33, 34, 35], [1, 3, 4, 5, 6, 7, 33, 34], [1, 3, 4, 5, 6, 7, 33, 34, 72], [2], [1, 3, 4, 5, 6, 7, 8, 33, 34], [1, 3, 4, 5, 6, 7, 8, 33, 34, 73], [1, 3, 4, 5, 6, 7, 8, 33, 34, 73, 74], [1, 3, 4, 5, 6, 7, 8, 9, 33, 34, 73], [1, 3, 4, 5, 6, 7, 8, 9, 33, 34, 73, 83], [2], [1, 3, 4, 5, 6, 7, 8, 33, 34, 73], [1, 3, 4, 5, 6, 7, 8, 33, 34, 73], [1, 3, 4, 5, 7, 33, 34, 96], [2], [1, 3, 4, 5, 33, 34], [1, 3, 4, 5, 33, 34], [1, 3, 4, 5, 107, 108, 109], [1, 3, 4, 5, 107, 108, 109, 110], [1, 3, 4, 5, 10, 11, 107, 108, 109], [1, 3, 4, 5, 11, 107, 108, 109, 175], [2], [1, 3, 4, 5, 107, 108, 109], [1, 3, 4, 5, 107, 108, 109], [2]]
noncomputable def zy41 : EnvT := ⟨Try.prog, lookT [(58, F_bank_Good), (59, F_ratio_In)]⟩
theorem zh41 : (zy41).Ok := lookT_ok ⟨ok_bank_Good, ok_ratio_In, trivial⟩
def T_stake_Good_l1 (x0 : Int) (x1 : Int) (x2 : Int) (x3 : Int) (x4 : Int) (x5 : (A6 Validator)) (x6 : Int) (x7 : Int) (x8 : Stake) (x9 : Validator) : Tr ((Int × Int × Int × Int × Int × (A6 Validator) × Int × Int × Stake × Validator) ⊕ ((Bool) ⊕ (Int × Int × Int × Int × (A6 Validator) × Int × Stake × Validator))) :=
  (.ite (decide (x7 < 4))
    (.guard ((0 : Int) ≤ x7 ∧ (x7 : Int) < 4)
    (.guard ((0 : Int) ≤ x3 ∧ (x3 : Int) < 6)
    (.bind (sh_ratio_In (A46.get x8.Shares x7 x3)) fun v3 =>
    (.ite (!v3)
      (.leaf (.inr (.inl false)))
      (.guard ((0 : Int) ≤ x7 ∧ (x7 : Int) < 4)
      (.guard ((0 : Int) ≤ x3 ∧ (x3 : Int) < 6)
      (.leaf (.inl (x0, x1, x2, x3, IntKind.i64.wrap (x4 + (A46.get x8.Shares x7 x3)), x5, x6, IntKind.i64.wrap (x7 + 1), x8, x9)))))))))
    (.leaf (.inr (.inr (x0, x1, x2, x4, x5, x6, x8, x9)))))
def sh_stake_Good_l1 (x0 : Int) (x1 : Int) (x2 : Int) (x3 : Int) (x4 : Int) (x5 : (A6 Validator)) (x6 : Int) (x7 : Int) (x8 : Stake) (x9 : Validator) : Option ((Bool) ⊕ (Int × Int × Int × Int × (A6 Validator) × Int × Stake × Validator)) := iter (fun s : Int × Int × Int × Int × Int × (A6 Validator) × Int × Int × Stake × Validator => (T_stake_Good_l1 s.1 s.2.1 s.2.2.1 s.2.2.2.1 s.2.2.2.2.1 s.2.2.2.2.2.1 s.2.2.2.2.2.2.1 s.2.2.2.2.2.2.2.1 s.2.2.2.2.2.2.2.2.1 s.2.2.2.2.2.2.2.2.2).run) (x0, x1, x2, x3, x4, x5, x6, x7, x8, x9)
def za41a : Ann := ⟨[], [], [], zv41, []⟩
def zq41a : EndD (Int × Int × Int × Int × Int × (A6 Validator) × Int × Int × Stake × Validator) := ⟨(LQ.skip (LQ.const (.ptr 0 0)) (LQ.seq (Par.q intP) (LQ.seq (Par.q intP) (LQ.seq (Par.q intP) (LQ.seq (Par.q intP) (LQ.skip (LQ.const (.ptr 1 0)) (LQ.seq (Par.q intP) (LQ.seq (Par.q (Par.ofLP (a6L validatorL))) (LQ.seq (Par.q intP) (LQ.seq (Par.q intP) (LQ.seq (LP.q stakeL) (LP.q validatorL)))))))))))), ⟨[1, 3, 4, 5, 6, 7, 8, 33, 34, 73], []⟩, [.cells 32 63, .cells 26 5]⟩
def zq41ae0 : EndD (Bool) := ⟨(Par.q boolP), ⟨[2], []⟩, []⟩
def zq41ae1 : EndD (Int × Int × Int × Int × (A6 Validator) × Int × Stake × Validator) := ⟨(LQ.skip (LQ.const (.ptr 0 0)) (LQ.seq (Par.q intP) (LQ.seq (Par.q intP) (LQ.seq (Par.q intP) (LQ.skip (LQ.const (.ptr 1 0)) (LQ.seq (Par.q intP) (LQ.seq (Par.q (Par.ofLP (a6L validatorL))) (LQ.seq (Par.q intP) (LQ.seq (LP.q stakeL) (LP.q validatorL)))))))))), ⟨[1, 3, 4, 5, 7, 8, 33, 34], []⟩, [.cells 32 63, .cells 26 5]⟩
def zl41a : St → Option LR := L2 200 4 0 zq41a .ret zq41ae0 (.exit 2) zq41ae1 (fun s => T_stake_Good_l1 s.1 s.2.1 s.2.2.1 s.2.2.2.1 s.2.2.2.2.1 s.2.2.2.2.2.1 s.2.2.2.2.2.2.1 s.2.2.2.2.2.2.2.1 s.2.2.2.2.2.2.2.2.1 s.2.2.2.2.2.2.2.2.2)
theorem zk41a : PieceOk (zy41).env 0 (sub zc41 [0, 1, 0, 1, 1, 1, 0, 0, 1, 1, 0, 0, 1, 0, 1, 1, 1]) zl41a :=
  loop2 (A := za41a) zh41 Facts.mix trivial (k := loopB (sub zc41 [0, 1, 0, 1, 1, 1, 0, 0, 1, 1, 0, 0, 1, 0, 1, 1, 1])) (by kernel_rfl) rfl rfl (by rintro ⟨x0, x1, x2, x3, x4, x5, x6, x7, x8, x9⟩; kernel_rfl)
def T_stake_Good_l2 (x0 : Int) (x1 : Int) (x2 : Int) (x3 : (A6 Validator)) (x4 : Int) (x5 : Stake) : Tr ((Int × Int × Int × (A6 Validator) × Int × Stake) ⊕ ((Bool) ⊕ (Int × Int × Int × Stake))) :=
  (.ite (decide (x4 < 6))
    (.guard ((0 : Int) ≤ x4 ∧ (x4 : Int) < 6)
    (.bind (sh_ratio_In (A6.get ⟨x3.x0.Tokens, x3.x1.Tokens, x3.x2.Tokens, x3.x3.Tokens, x3.x4.Tokens, x3.x5.Tokens⟩ x4)) fun v2 =>
    (.guard (((!v2) = false → ((sh_ratio_In (A6.get ⟨x3.x0.Shares, x3.x1.Shares, x3.x2.Shares, x3.x3.Shares, x3.x4.Shares, x3.x5.Shares⟩ x4)).isSome = true) ∧ True))
    (.guard ((((!v2) || (!((sh_ratio_In (A6.get ⟨x3.x0.Shares, x3.x1.Shares, x3.x2.Shares, x3.x3.Shares, x3.x4.Shares, x3.x5.Shares⟩ x4)).getD default))) = false → ((sh_ratio_In (A6.get ⟨x3.x0.Lost, x3.x1.Lost, x3.x2.Lost, x3.x3.Lost, x3.x4.Lost, x3.x5.Lost⟩ x4)).isSome = true) ∧ True))
    (.ite (((((!v2) || (!((sh_ratio_In (A6.get ⟨x3.x0.Shares, x3.x1.Shares, x3.x2.Shares, x3.x3.Shares, x3.x4.Shares, x3.x5.Shares⟩ x4)).getD default))) || (!((sh_ratio_In (A6.get ⟨x3.x0.Lost, x3.x1.Lost, x3.x2.Lost, x3.x3.Lost, x3.x4.Lost, x3.x5.Lost⟩ x4)).getD default))) || (((A6.get ⟨x3.x0.Shares, x3.x1.Shares, x3.x2.Shares, x3.x3.Shares, x3.x4.Shares, x3.x5.Shares⟩ x4) == 0) && (decide ((A6.get ⟨x3.x0.Tokens, x3.x1.Tokens, x3.x2.Tokens, x3.x3.Tokens, x3.x4.Tokens, x3.x5.Tokens⟩ x4) > 0)))) || ((A6.get ⟨x3.x0.Dead, x3.x1.Dead, x3.x2.Dead, x3.x3.Dead, x3.x4.Dead, x3.x5.Dead⟩ x4) && (!(A6.get ⟨x3.x0.Jailed, x3.x1.Jailed, x3.x2.Jailed, x3.x3.Jailed, x3.x4.Jailed, x3.x5.Jailed⟩ x4))))
      (.leaf (.inr (.inl false)))
      (.two (sh_stake_Good_l1 x0 x1 x2 x4 0 x3 x4 0 x5 (⟨A6.get ⟨x3.x0.Tokens, x3.x1.Tokens, x3.x2.Tokens, x3.x3.Tokens, x3.x4.Tokens, x3.x5.Tokens⟩ x4, A6.get ⟨x3.x0.Shares, x3.x1.Shares, x3.x2.Shares, x3.x3.Shares, x3.x4.Shares, x3.x5.Shares⟩ x4, A6.get ⟨x3.x0.Lost, x3.x1.Lost, x3.x2.Lost, x3.x3.Lost, x3.x4.Lost, x3.x5.Lost⟩ x4, A6.get ⟨x3.x0.Jailed, x3.x1.Jailed, x3.x2.Jailed, x3.x3.Jailed, x3.x4.Jailed, x3.x5.Jailed⟩ x4, A6.get ⟨x3.x0.Dead, x3.x1.Dead, x3.x2.Dead, x3.x3.Dead, x3.x4.Dead, x3.x5.Dead⟩ x4⟩ : Validator)) (fun v4 =>
        (.leaf (.inr (.inl v4)))) (fun v5 =>
        (.ite (v5.2.2.2.1 != v5.2.2.2.2.2.2.2.Shares)
          (.leaf (.inr (.inl false)))
          (.leaf (.inl (IntKind.i64.wrap (v5.1 + v5.2.2.2.2.2.2.2.Tokens), v5.2.1, IntKind.i64.wrap (v5.2.2.1 + v5.2.2.2.2.2.2.2.Lost), v5.2.2.2.2.1, IntKind.i64.wrap (v5.2.2.2.2.2.1 + 1), v5.2.2.2.2.2.2.1)))))))))))
    (.leaf (.inr (.inr (x0, x1, x2, (⟨x5.Bank, x5.Validators, x5.Shares, x5.Waits, x5.Next⟩ : Stake))))))
def sh_stake_Good_l2 (x0 : Int) (x1 : Int) (x2 : Int) (x3 : (A6 Validator)) (x4 : Int) (x5 : Stake) : Option ((Bool) ⊕ (Int × Int × Int × Stake)) := iter (fun s : Int × Int × Int × (A6 Validator) × Int × Stake => (T_stake_Good_l2 s.1 s.2.1 s.2.2.1 s.2.2.2.1 s.2.2.2.2.1 s.2.2.2.2.2).run) (x0, x1, x2, x3, x4, x5)
def za41b : Ann := ⟨[([0, 1, 0, 1, 1, 1, 0, 0, 1, 1, 0, 0, 1, 0, 1, 1, 1], zl41a)], [], [], zv41, []⟩
def zq41b : EndD (Int × Int × Int × (A6 Validator) × Int × Stake) := ⟨(LQ.skip (LQ.const (.ptr 0 0)) (LQ.seq (Par.q intP) (LQ.seq (Par.q intP) (LQ.seq (Par.q intP) (LQ.seq (Par.q (Par.ofLP (a6L validatorL))) (LQ.seq (Par.q intP) (LP.q stakeL))))))), ⟨[1, 3, 4, 5, 33, 34], []⟩, [.cells 32 63]⟩
def zq41be0 : EndD (Bool) := ⟨(Par.q boolP), ⟨[2], []⟩, []⟩
def zq41be1 : EndD (Int × Int × Int × Stake) := ⟨(LQ.skip (LQ.const (.ptr 0 0)) (LQ.seq (Par.q intP) (LQ.seq (Par.q intP) (LQ.seq (Par.q intP) (LP.q stakeL))))), ⟨[1, 3, 4, 5], []⟩, [.cells 32 63]⟩
def zl41b : St → Option LR := L2 200 4 0 zq41b .ret zq41be0 (.exit 0) zq41be1 (fun s => T_stake_Good_l2 s.1 s.2.1 s.2.2.1 s.2.2.2.1 s.2.2.2.2.1 s.2.2.2.2.2)
theorem zk41b : PieceOk (zy41).env 0 (sub zc41 [0, 1, 0, 1, 1, 1]) zl41b :=
  loop2 (A := za41b) zh41 Facts.mix ⟨zk41a, trivial⟩ (k := loopB (sub zc41 [0, 1, 0, 1, 1, 1])) (by kernel_rfl) rfl rfl (by rintro ⟨x0, x1, x2, x3, x4, x5⟩; kernel_rfl)
def T_stake_Good_l3 (x0 : Int) (x1 : Int) (x2 : Int) (x3 : (List Wait)) (x4 : Int) (x5 : Int) (x6 : Stake) : Tr ((Int × Int × Int × (List Wait) × Int × Int × Stake) ⊕ ((Bool) ⊕ (Int × Int × Int × Stake))) :=
  (.ite (decide (x5 < x4))
    (.guard ((0 : Int) ≤ x5 ∧ x5 < ((Sl.len (.waits x3) : Nat) : Int))
    (.guard (((decide (x5 > 0)) = true → (((decide (((x3.getD x5.toNat default).Number) < 1)) || (decide (((x3.getD x5.toNat default).Number) ≥ x6.Next))) = false → ((0 : Int) ≤ (IntKind.i64.wrap (x5 - 1)) ∧ (IntKind.i64.wrap (x5 - 1)) < ((Sl.len (.waits x6.Waits) : Nat) : Int)) ∧ True)))
    (.guard (((((((((decide (((x3.getD x5.toNat default).Number) < 1)) || (decide (((x3.getD x5.toNat default).Number) ≥ x6.Next))) || ((decide (x5 > 0)) && (decide (((x6.Waits.getD ((IntKind.i64.wrap (x5 - 1)).toNat) default).Number) ≥ ((x3.getD x5.toNat default).Number))))) || (decide (((x3.getD x5.toNat default).D) < 0))) || (decide (((x3.getD x5.toNat default).D) ≥ 4))) || (decide (((x3.getD x5.toNat default).V) < 0))) || (decide (((x3.getD x5.toNat default).V) ≥ 6))) = false → ((sh_ratio_In ((x3.getD x5.toNat default).Amount)).isSome = true) ∧ True))
    (.ite ((((((((((decide (((x3.getD x5.toNat default).Number) < 1)) || (decide (((x3.getD x5.toNat default).Number) ≥ x6.Next))) || ((decide (x5 > 0)) && (decide (((x6.Waits.getD ((IntKind.i64.wrap (x5 - 1)).toNat) default).Number) ≥ ((x3.getD x5.toNat default).Number))))) || (decide (((x3.getD x5.toNat default).D) < 0))) || (decide (((x3.getD x5.toNat default).D) ≥ 4))) || (decide (((x3.getD x5.toNat default).V) < 0))) || (decide (((x3.getD x5.toNat default).V) ≥ 6))) || (!((sh_ratio_In ((x3.getD x5.toNat default).Amount)).getD default))) || (decide (((x3.getD x5.toNat default).Height) < 0))) || (decide (((x3.getD x5.toNat default).Due) < 0)))
      (.leaf (.inr (.inl false)))
      (.leaf (.inl (x0, IntKind.i64.wrap (x1 + ((x3.getD x5.toNat default).Amount)), x2, x3, x4, IntKind.i64.wrap (x5 + 1), x6)))))))
    (.leaf (.inr (.inr (x0, x1, x2, x6)))))
def sh_stake_Good_l3 (x0 : Int) (x1 : Int) (x2 : Int) (x3 : (List Wait)) (x4 : Int) (x5 : Int) (x6 : Stake) : Option ((Bool) ⊕ (Int × Int × Int × Stake)) := iter (fun s : Int × Int × Int × (List Wait) × Int × Int × Stake => (T_stake_Good_l3 s.1 s.2.1 s.2.2.1 s.2.2.2.1 s.2.2.2.2.1 s.2.2.2.2.2.1 s.2.2.2.2.2.2).run) (x0, x1, x2, x3, x4, x5, x6)
def za41c : Ann := ⟨[], [], [], zv41, []⟩
def zq41c : EndD (Int × Int × Int × (List Wait) × Int × Int × Stake) := ⟨(LQ.skip (LQ.const (.ptr 0 0)) (LQ.seq (Par.q intP) (LQ.seq (Par.q intP) (LQ.seq (Par.q intP) (LQ.seq (Par.q waitsP) (LQ.seq (Par.q intP) (LQ.seq (Par.q intP) (LP.q stakeL)))))))), ⟨[1, 3, 4, 5, 107, 108, 109], [.pub 107, .nilsl 107 (.waits [])]⟩, [.cells 32 63]⟩
def zq41ce0 : EndD (Bool) := ⟨(Par.q boolP), ⟨[2], []⟩, []⟩
def zq41ce1 : EndD (Int × Int × Int × Stake) := ⟨(LQ.skip (LQ.const (.ptr 0 0)) (LQ.seq (Par.q intP) (LQ.seq (Par.q intP) (LQ.seq (Par.q intP) (LP.q stakeL))))), ⟨[1, 3, 4, 5], []⟩, [.cells 32 63]⟩
def zl41c : St → Option LR := L2 200 4 0 zq41c .ret zq41ce0 (.exit 4) zq41ce1 (fun s => T_stake_Good_l3 s.1 s.2.1 s.2.2.1 s.2.2.2.1 s.2.2.2.2.1 s.2.2.2.2.2.1 s.2.2.2.2.2.2)
theorem zk41c : PieceOk (zy41).env 0 (sub zc41 [0, 1, 0, 1, 1, 1, 1]) zl41c :=
  loop2 (A := za41c) zh41 Facts.mix trivial (k := loopB (sub zc41 [0, 1, 0, 1, 1, 1, 1])) (by kernel_rfl) rfl rfl (by rintro ⟨x0, x1, x2, x3, x4, x5, x6⟩; kernel_rfl)
def za41 : Ann := ⟨[([0, 1, 0, 1, 1, 1], zl41b), ([0, 1, 0, 1, 1, 1, 1], zl41c)], [], [], zv41, []⟩
def T_stake_Good (a0 : Stake) : Tr (Bool) :=
  (.bind (sh_bank_Good a0.Bank) fun v1 =>
  (.ite ((((!v1) || (decide (a0.Next < 1))) || (decide (a0.Next > 1125899906842624))) || (decide (((a0.Waits.length : Nat) : Int) > 60)))
    (.leaf false)
    (.two (sh_stake_Good_l2 0 0 0 (⟨(⟨a0.Validators.Tokens.x0, a0.Validators.Shares.x0, a0.Validators.Lost.x0, a0.Validators.Jailed.x0, a0.Validators.Dead.x0⟩ : Validator), (⟨a0.Validators.Tokens.x1, a0.Validators.Shares.x1, a0.Validators.Lost.x1, a0.Validators.Jailed.x1, a0.Validators.Dead.x1⟩ : Validator), (⟨a0.Validators.Tokens.x2, a0.Validators.Shares.x2, a0.Validators.Lost.x2, a0.Validators.Jailed.x2, a0.Validators.Dead.x2⟩ : Validator), (⟨a0.Validators.Tokens.x3, a0.Validators.Shares.x3, a0.Validators.Lost.x3, a0.Validators.Jailed.x3, a0.Validators.Dead.x3⟩ : Validator), (⟨a0.Validators.Tokens.x4, a0.Validators.Shares.x4, a0.Validators.Lost.x4, a0.Validators.Jailed.x4, a0.Validators.Dead.x4⟩ : Validator), (⟨a0.Validators.Tokens.x5, a0.Validators.Shares.x5, a0.Validators.Lost.x5, a0.Validators.Jailed.x5, a0.Validators.Dead.x5⟩ : Validator)⟩ : (A6 Validator)) 0 a0) (fun v6 =>
      (.leaf v6)) (fun v7 =>
      (.two (sh_stake_Good_l3 v7.1 v7.2.1 v7.2.2.1 v7.2.2.2.Waits ((v7.2.2.2.Waits.length : Nat) : Int) 0 v7.2.2.2) (fun v8 =>
        (.leaf v8)) (fun v9 =>
        (.leaf (((v9.1 == v9.2.2.2.Bank.Bonded) && (v9.2.1 == v9.2.2.2.Bank.Waiting)) && (v9.2.2.1 == v9.2.2.2.Bank.Burnt)))))))))
def sh_stake_Good (a0 : Stake) : Option (Bool) := (T_stake_Good a0).run
def zr41 : LQ (Stake) := (Par.q (Par.ofLP stakeL))
def qr_stake_Good : LQ (Bool) := (Par.q boolP)
def F_stake_Good : SpecT := specF 0 zr41 1 [] (fun s => T_stake_Good s) default qr_stake_Good 1 []
theorem ok_stake_Good : SpecOk Try.prog 19 (F_stake_Good).spec :=
  specF_ok (A := za41) zh41 Facts.mix Try.func19 (c := zc41) (by kernel_rfl) (Lc := 0) ⟨zk41b, zk41c, trivial⟩ zr41 1 4 [] (fun s => T_stake_Good s) default qr_stake_Good 1 [] [] (by decide) (by kernel_rfl) (by rfl) (by decide) (by decide) (by rfl)
    (by rintro a0; kernel_rfl)

noncomputable def zc42 : Code := Try.f52.body.getD .skip
def zv42 : List (List Nat) := [[1, 2, 3], [1, 2, 7], [6], [11], [6], [6]]
noncomputable def zy42 : EnvT := ⟨Try.prog, lookT [(19, F_stake_Good)]⟩
theorem zh42 : (zy42).Ok := lookT_ok ⟨ok_stake_Good, trivial⟩
def za42 : Ann := ⟨[], [], [], zv42, []⟩
def T_stake_known (a0 : Stake) (a1 : Int) (a2 : Int) : Tr (Int) :=
  (.bind (sh_stake_Good a0) fun v1 =>
  (.ite (!v1)
    (.leaf 2)
    (.ite ((((decide (a1 < 0)) || (decide (a1 ≥ 4))) || (decide (a2 < 0))) || (decide (a2 ≥ 6)))
      (.leaf 4)
      (.leaf 0))))
def sh_stake_known (a0 : Stake) (a1 : Int) (a2 : Int) : Option (Int) := (T_stake_known a0 a1 a2).run
def zr42 : LQ (Stake × Int × Int) := (LQ.seq (Par.q (Par.ofLP stakeL)) (LQ.seq (Par.q intP) (Par.q intP)))
def qr_stake_known : LQ (Int) := (Par.q intP)
def F_stake_known : SpecT := specF 0 zr42 3 [] (fun s => T_stake_known s.1 s.2.1 s.2.2) default qr_stake_known 1 []
theorem ok_stake_known : SpecOk Try.prog 52 (F_stake_known).spec :=
  specF_ok (A := za42) zh42 Facts.mix Try.func52 (c := zc42) (by kernel_rfl) (Lc := 0) trivial zr42 3 3 [] (fun s => T_stake_known s.1 s.2.1 s.2.2) default qr_stake_known 1 [] [] (by decide) (by kernel_rfl) (by rfl) (by decide) (by decide) (by rfl)
    (by rintro ⟨a0, a1, a2⟩; kernel_rfl)

noncomputable def zc43 : Code := Try.f16.body.getD .skip
def zv43 : List (List Nat) := [[1, 2, 3, 4, 8], [1, 2, 3, 4, 8, 10], [1, 2, 3, 4, 8, 10, 22], [8, 9], [1, 2, 3, 4, 8, 11], [1, 2, 3, 4, 8, 11, 31], [8, 9], [1, 2, 3, 4, 8, 11, 38], [8, 9], [1, 2, 3, 4, 8, 11, 12], [1, 2, 3, 4, 8, 11, 12, 45], [1, 2, 3, 4, 8, 11, 50], [8, 9], [1, 2, 3, 4, 8, 11, 13, 14], [1, 2, 3, 4, 8, 11, 13, 75], [8, 9], [1, 2, 3, 4, 8, 11, 12], [1, 2, 3, 4, 8, 11, 12, 79], [8, 9], [1, 2, 3, 4, 8, 11, 12, 15, 16], [1, 2, 3, 4, 8, 11, 12, 15, 16, 90], [8, 9], [1, 2, 3, 4, 8, 11, 12], [1, 2, 4, 8, 12], [4, 8], [8, 9]]
noncomputable def zy43 : EnvT := ⟨Try.prog, lookT [(52, F_stake_known), (53, F_ratio_MulDiv), (54, F_bank_Bond)]⟩
theorem zh43 : (zy43).Ok := lookT_ok ⟨ok_stake_known, ok_ratio_MulDiv, ok_bank_Bond, trivial⟩
def za43 : Ann := ⟨[], [], [], zv43, []⟩
def T_stake_Delegate (a0 : Stake) (a1 : Int) (a2 : Int) (a3 : Int) : Tr (Stake × Int) :=
  (.bind (sh_stake_known a0 a1 a2) fun v1 =>
  (.ite (v1 != 0)
    (.leaf (a0, v1))
    (.guard ((0 : Int) ≤ a2 ∧ (a2 : Int) < 6)
    (.ite (a0.Validators.Dead.get a2)
      (.leaf (a0, 15))
      (.ite ((decide (a3 < 1)) || (decide (a3 > 1125899906842624)))
        (.leaf (a0, 2))
        (.ite (decide ((a0.Validators.Shares.get a2) > 0))
          (.ite ((a0.Validators.Tokens.get a2) == 0)
            (.leaf (a0, 8))
            (.guard ((sh_ratio_MulDiv a3 (a0.Validators.Shares.get a2) (a0.Validators.Tokens.get a2)).isSome = true)
            (.ite (((((sh_ratio_MulDiv a3 (a0.Validators.Shares.get a2) (a0.Validators.Tokens.get a2)).getD default).2) != 0) || (decide ((((sh_ratio_MulDiv a3 (a0.Validators.Shares.get a2) (a0.Validators.Tokens.get a2)).getD default).1) > (IntKind.i64.wrap (1125899906842624 - (a0.Validators.Shares.get a2))))))
              (.leaf (a0, 6))
              (.ite ((((sh_ratio_MulDiv a3 (a0.Validators.Shares.get a2) (a0.Validators.Tokens.get a2)).getD default).1) == 0)
                (.leaf (a0, 8))
                (.bind (sh_bank_Bond a0.Bank a1 a3) fun v2 =>
                (.ite (v2.2 != 0)
                  (.leaf (a0, v2.2))
                  (.guard ((0 : Int) ≤ a1 ∧ (a1 : Int) < 4)
                  (.guard ((0 : Int) ≤ a2 ∧ (a2 : Int) < 6)
                  (.guard ((0 : Int) ≤ a1 ∧ (a1 : Int) < 4)
                  (.guard ((0 : Int) ≤ a2 ∧ (a2 : Int) < 6)
                  (.leaf ((⟨v2.1, { (a0.Validators : Validators) with Tokens := (a0.Validators.Tokens.set a2 (IntKind.i64.wrap ((a0.Validators.Tokens.get a2) + a3))), Shares := (a0.Validators.Shares.set a2 (IntKind.i64.wrap ((a0.Validators.Shares.get a2) + (((sh_ratio_MulDiv a3 (a0.Validators.Shares.get a2) (a0.Validators.Tokens.get a2)).getD default).1)))) }, (A46.set a0.Shares a1 a2 (IntKind.i64.wrap ((A46.get a0.Shares a1 a2) + (((sh_ratio_MulDiv a3 (a0.Validators.Shares.get a2) (a0.Validators.Tokens.get a2)).getD default).1)))), a0.Waits, a0.Next⟩ : Stake), 0))))))))))))
          (.ite (a3 == 0)
            (.leaf (a0, 8))
            (.bind (sh_bank_Bond a0.Bank a1 a3) fun v3 =>
            (.ite (v3.2 != 0)
              (.leaf (a0, v3.2))
              (.guard ((0 : Int) ≤ a1 ∧ (a1 : Int) < 4)
              (.guard ((0 : Int) ≤ a2 ∧ (a2 : Int) < 6)
              (.guard ((0 : Int) ≤ a1 ∧ (a1 : Int) < 4)
              (.guard ((0 : Int) ≤ a2 ∧ (a2 : Int) < 6)
              (.leaf ((⟨v3.1, { (a0.Validators : Validators) with Tokens := (a0.Validators.Tokens.set a2 (IntKind.i64.wrap ((a0.Validators.Tokens.get a2) + a3))), Shares := (a0.Validators.Shares.set a2 (IntKind.i64.wrap ((a0.Validators.Shares.get a2) + a3))) }, (A46.set a0.Shares a1 a2 (IntKind.i64.wrap ((A46.get a0.Shares a1 a2) + a3))), a0.Waits, a0.Next⟩ : Stake), 0)))))))))))))))
def sh_stake_Delegate (a0 : Stake) (a1 : Int) (a2 : Int) (a3 : Int) : Option (Stake × Int) := (T_stake_Delegate a0 a1 a2 a3).run
def zr43 : LQ (Stake × Int × Int × Int) := (LQ.seq (Par.q (Par.ofLP stakeL)) (LQ.seq (Par.q intP) (LQ.seq (Par.q intP) (Par.q intP))))
def qr_stake_Delegate : LQ (Stake × Int) := (LQ.seq (Par.q (Par.ofLP stakeL)) (Par.q intP))
def F_stake_Delegate : SpecT := specF 0 zr43 4 [] (fun s => T_stake_Delegate s.1 s.2.1 s.2.2.1 s.2.2.2) default qr_stake_Delegate 2 []
theorem ok_stake_Delegate : SpecOk Try.prog 16 (F_stake_Delegate).spec :=
  specF_ok (A := za43) zh43 Facts.mix Try.func16 (c := zc43) (by kernel_rfl) (Lc := 0) trivial zr43 4 5 [] (fun s => T_stake_Delegate s.1 s.2.1 s.2.2.1 s.2.2.2) default qr_stake_Delegate 2 [] [.pubB 8] (by decide) (by kernel_rfl) (by rfl) (by decide) (by decide) (by rfl)
    (by rintro ⟨a0, a1, a2, a3⟩; kernel_rfl)

noncomputable def zc44 : Code := Try.f42.body.getD .skip
def zv44 : List (List Nat) := [[1, 2, 3, 5, 9, 10], [1, 2, 3, 5, 9, 10, 12], [1, 2, 3, 5, 9, 10, 12, 23], [10, 11], [1, 2, 3, 5, 9, 10, 41], [10, 11], [1, 2, 3, 5, 9, 10, 50], [10, 11], [1, 2, 3, 5, 9, 10, 60], [10, 11], [1, 2, 3, 5, 9, 10, 13], [1, 2, 3, 5, 9, 10, 13, 14], [1, 2, 3, 5, 9, 10, 13, 14, 83], [1, 2, 3, 5, 9, 10, 13, 14], [1, 2, 3, 5, 9, 10, 13, 14, 89], [10, 11], [1, 2, 3, 5, 9, 10, 13, 14, 16, 17], [1, 2, 3, 5, 9, 10, 13, 14, 16, 17, 99], [10, 11], [1, 2, 3, 5, 9, 10, 13, 14], [1, 2, 3, 5, 9, 10, 14], [1, 2, 5, 9, 10, 14], [5, 9, 10], [5, 10], [5, 10], [10, 11]]
noncomputable def zy44 : EnvT := ⟨Try.prog, lookT [(52, F_stake_known), (53, F_ratio_MulDiv), (72, F_bank_Unbond), (73, F_slices_Clone_api_Wait)]⟩
theorem zh44 : (zy44).Ok := lookT_ok ⟨ok_stake_known, ok_ratio_MulDiv, ok_bank_Unbond, ok_slices_Clone_api_Wait, trivial⟩
def za44 : Ann := ⟨[], [], [], zv44, []⟩
def T_stake_Undelegate (a0 : Stake) (a1 : Int) (a2 : Int) (a3 : Int) (a4 : Wait) : Tr (Stake × Int) :=
  (.bind (sh_stake_known a0 a1 a2) fun v1 =>
  (.ite (v1 != 0)
    (.leaf (a0, v1))
    (.ite ((((decide (a3 < 1)) || (decide (a3 > 1125899906842624))) || (decide (a4.Height < 0))) || (decide (a4.Due < 0)))
      (.leaf (a0, 2))
      (.guard ((0 : Int) ≤ a1 ∧ (a1 : Int) < 4)
      (.guard ((0 : Int) ≤ a2 ∧ (a2 : Int) < 6)
      (.ite (decide ((A46.get a0.Shares a1 a2) < a3))
        (.leaf (a0, 7))
        (.ite ((decide (((a0.Waits.length : Nat) : Int) ≥ 60)) || (decide (a0.Next ≥ 1125899906842624)))
          (.leaf (a0, 6))
          (.guard ((0 : Int) ≤ a2 ∧ (a2 : Int) < 6)
          (.guard ((sh_ratio_MulDiv a3 (a0.Validators.Tokens.get a2) (a0.Validators.Shares.get a2)).isSome = true)
          (.ite (a3 == (a0.Validators.Shares.get a2))
            (.ite ((a0.Validators.Tokens.get a2) == 0)
              (.leaf (a0, 8))
              (.bind (sh_bank_Unbond a0.Bank (a0.Validators.Tokens.get a2)) fun v2 =>
              (.ite (v2.2 != 0)
                (.leaf (a0, v2.2))
                (.guard ((0 : Int) ≤ a1 ∧ (a1 : Int) < 4)
                (.guard ((0 : Int) ≤ a2 ∧ (a2 : Int) < 6)
                (.guard ((0 : Int) ≤ a1 ∧ (a1 : Int) < 4)
                (.guard ((0 : Int) ≤ a2 ∧ (a2 : Int) < 6)
                (.guard ((sh_slices_Clone_api_Wait a0.Waits).isSome = true)
                (.guard ((Sl.len (.waits ((sh_slices_Clone_api_Wait a0.Waits).getD default)) + Sl.len (.waits [{ (a4 : Wait) with Number := a0.Next, D := a1, V := a2, Amount := a0.Validators.Tokens.get a2 }])) * 64 ≤ 140737488355328)
                (.leaf ((⟨v2.1, { (a0.Validators : Validators) with Tokens := (a0.Validators.Tokens.set a2 (IntKind.i64.wrap ((a0.Validators.Tokens.get a2) - (a0.Validators.Tokens.get a2)))), Shares := (a0.Validators.Shares.set a2 (IntKind.i64.wrap ((a0.Validators.Shares.get a2) - a3))) }, (A46.set a0.Shares a1 a2 (IntKind.i64.wrap ((A46.get a0.Shares a1 a2) - a3))), ((sh_slices_Clone_api_Wait a0.Waits).getD default) ++ [{ (a4 : Wait) with Number := a0.Next, D := a1, V := a2, Amount := a0.Validators.Tokens.get a2 }], IntKind.i64.wrap (a0.Next + 1)⟩ : Stake), 0)))))))))))
            (.ite ((((sh_ratio_MulDiv a3 (a0.Validators.Tokens.get a2) (a0.Validators.Shares.get a2)).getD default).1) == 0)
              (.leaf (a0, 8))
              (.bind (sh_bank_Unbond a0.Bank (((sh_ratio_MulDiv a3 (a0.Validators.Tokens.get a2) (a0.Validators.Shares.get a2)).getD default).1)) fun v3 =>
              (.ite (v3.2 != 0)
                (.leaf (a0, v3.2))
                (.guard ((0 : Int) ≤ a1 ∧ (a1 : Int) < 4)
                (.guard ((0 : Int) ≤ a2 ∧ (a2 : Int) < 6)
                (.guard ((0 : Int) ≤ a1 ∧ (a1 : Int) < 4)
                (.guard ((0 : Int) ≤ a2 ∧ (a2 : Int) < 6)
                (.guard ((sh_slices_Clone_api_Wait a0.Waits).isSome = true)
                (.guard ((Sl.len (.waits ((sh_slices_Clone_api_Wait a0.Waits).getD default)) + Sl.len (.waits [{ (a4 : Wait) with Number := a0.Next, D := a1, V := a2, Amount := ((sh_ratio_MulDiv a3 (a0.Validators.Tokens.get a2) (a0.Validators.Shares.get a2)).getD default).1 }])) * 64 ≤ 140737488355328)
                (.leaf ((⟨v3.1, { (a0.Validators : Validators) with Tokens := (a0.Validators.Tokens.set a2 (IntKind.i64.wrap ((a0.Validators.Tokens.get a2) - (((sh_ratio_MulDiv a3 (a0.Validators.Tokens.get a2) (a0.Validators.Shares.get a2)).getD default).1)))), Shares := (a0.Validators.Shares.set a2 (IntKind.i64.wrap ((a0.Validators.Shares.get a2) - a3))) }, (A46.set a0.Shares a1 a2 (IntKind.i64.wrap ((A46.get a0.Shares a1 a2) - a3))), ((sh_slices_Clone_api_Wait a0.Waits).getD default) ++ [{ (a4 : Wait) with Number := a0.Next, D := a1, V := a2, Amount := ((sh_ratio_MulDiv a3 (a0.Validators.Tokens.get a2) (a0.Validators.Shares.get a2)).getD default).1 }], IntKind.i64.wrap (a0.Next + 1)⟩ : Stake), 0)))))))))))))))))))))
def sh_stake_Undelegate (a0 : Stake) (a1 : Int) (a2 : Int) (a3 : Int) (a4 : Wait) : Option (Stake × Int) := (T_stake_Undelegate a0 a1 a2 a3 a4).run
def zr44 : LQ (Stake × Int × Int × Int × Wait) := (LQ.seq (Par.q (Par.ofLP stakeL)) (LQ.seq (Par.q intP) (LQ.seq (Par.q intP) (LQ.seq (Par.q intP) (Par.q (Par.ofLP waitL))))))
def qr_stake_Undelegate : LQ (Stake × Int) := (LQ.seq (Par.q (Par.ofLP stakeL)) (Par.q intP))
def F_stake_Undelegate : SpecT := specF 0 zr44 5 [] (fun s => T_stake_Undelegate s.1 s.2.1 s.2.2.1 s.2.2.2.1 s.2.2.2.2) default qr_stake_Undelegate 2 []
theorem ok_stake_Undelegate : SpecOk Try.prog 42 (F_stake_Undelegate).spec :=
  specF_ok (A := za44) zh44 Facts.mix Try.func42 (c := zc44) (by kernel_rfl) (Lc := 0) trivial zr44 5 9 [] (fun s => T_stake_Undelegate s.1 s.2.1 s.2.2.1 s.2.2.2.1 s.2.2.2.2) default qr_stake_Undelegate 2 [] [.pubB 10] (by decide) (by kernel_rfl) (by rfl) (by decide) (by decide) (by rfl)
    (by rintro ⟨a0, a1, a2, a3, a4⟩; kernel_rfl)

noncomputable def zc45 : Code := Try.f46.body.getD .skip
def zv45 : List (List Nat) := [[1, 2, 3, 6], [1, 2, 3, 6, 13], [6], [1, 2, 3, 6], [1, 2, 3, 6, 21, 22], [1, 2, 3, 6, 21, 22, 23], [1, 2, 3, 6, 7, 21, 22], [1, 2, 3, 6, 7, 21, 22, 34], [1, 2, 3, 6, 21, 22], [1, 2, 3, 6, 21, 22], [6]]
noncomputable def zy45 : EnvT := ⟨Try.prog, lookT [(73, F_slices_Clone_api_Wait)]⟩
theorem zh45 : (zy45).Ok := lookT_ok ⟨ok_slices_Clone_api_Wait, trivial⟩
def T_stake_Release_l1 (x0 : Int) (x1 : Int) (x2 : Int) (x3 : Int) (x4 : Stake) (x5 : Stake) : Tr ((Int × Int × Int × Int × Stake × Stake) ⊕ (Stake × Stake)) :=
  (.ite (decide (x3 < x2))
    (.guard ((0 : Int) ≤ x3 ∧ x3 < ((Sl.len (.waits x4.Waits) : Nat) : Int))
    (.guard ((0 : Int) ≤ x0 ∧ (x0 : Int) < 2)
    (.ite (decide ((A2.get ⟨(x4.Waits.getD x3.toNat default).h0, (x4.Waits.getD x3.toNat default).h1⟩ x0) ≤ x1))
      (.guard ((0 : Int) ≤ x3 ∧ x3 < ((Sl.len (.waits x4.Waits) : Nat) : Int))
      (.guard ((0 : Int) ≤ x0 ∧ (x0 : Int) < 2)
      (.leaf (.inl (x0, x1, x2, IntKind.i64.wrap (x3 + 1), { (x4 : Stake) with Waits := x4.Waits.set x3.toNat ({ ((x4.Waits.getD x3.toNat default) : Wait) with h0 := if x0 = 0 then 0 else (x4.Waits.getD x3.toNat default).h0, h1 := if x0 = 1 then 0 else (x4.Waits.getD x3.toNat default).h1 }) }, x5)))))
      (.leaf (.inl (x0, x1, x2, IntKind.i64.wrap (x3 + 1), x4, x5))))))
    (.leaf (.inr (x4, x5))))
def sh_stake_Release_l1 (x0 : Int) (x1 : Int) (x2 : Int) (x3 : Int) (x4 : Stake) (x5 : Stake) : Option (Stake × Stake) := iter (fun s : Int × Int × Int × Int × Stake × Stake => (T_stake_Release_l1 s.1 s.2.1 s.2.2.1 s.2.2.2.1 s.2.2.2.2.1 s.2.2.2.2.2).run) (x0, x1, x2, x3, x4, x5)
def za45a : Ann := ⟨[], [], [], zv45, []⟩
def zq45a : EndD (Int × Int × Int × Int × Stake × Stake) := ⟨(LQ.map (LQ.seq (Par.q intP) (LQ.seq (Par.q intP) (LQ.skip (LQ.const (.ptr 0 0)) (LQ.skip (LQ.const (.ptr 1 0)) (LQ.seq (Par.q intP) (LQ.seq (Par.q intP) (LQ.seq (LP.q bankL) (LQ.seq (LP.q validatorsL) (LQ.seq (LP.q (a4L (a6L (LP.one intP)))) (LQ.skip (LQ.const (.own 2)) (LQ.seq (Par.q intP) (LQ.seq (LP.q bankL) (LQ.seq (LP.q validatorsL) (LQ.seq (LP.q (a4L (a6L (LP.one intP)))) (LQ.skip (LQ.const (.own 3)) (LQ.seq (Par.q intP) (LQ.seq (Par.q waitsP) (Par.q waitsP)))))))))))))))))) (fun x : Int × Int × Int × Int × Bank × Validators × (A4 (A6 Int)) × Int × Bank × Validators × (A4 (A6 Int)) × Int × (List Wait) × (List Wait) => ((x.1, x.2.1, x.2.2.1, x.2.2.2.1, (⟨x.2.2.2.2.1, x.2.2.2.2.2.1, x.2.2.2.2.2.2.1, x.2.2.2.2.2.2.2.2.2.2.2.2.1, x.2.2.2.2.2.2.2.1⟩ : Stake), (⟨x.2.2.2.2.2.2.2.2.1, x.2.2.2.2.2.2.2.2.2.1, x.2.2.2.2.2.2.2.2.2.2.1, x.2.2.2.2.2.2.2.2.2.2.2.2.2, x.2.2.2.2.2.2.2.2.2.2.2.1⟩ : Stake)) : Int × Int × Int × Int × Stake × Stake)) (fun y => (y.1, y.2.1, y.2.2.1, y.2.2.2.1, y.2.2.2.2.1.Bank, y.2.2.2.2.1.Validators, y.2.2.2.2.1.Shares, y.2.2.2.2.1.Next, y.2.2.2.2.2.Bank, y.2.2.2.2.2.Validators, y.2.2.2.2.2.Shares, y.2.2.2.2.2.Next, y.2.2.2.2.1.Waits, y.2.2.2.2.2.Waits)) (fun _ => rfl)), ⟨[1, 2, 3, 6, 21, 22], [.nilcell 3 61 51 (.waits []), .nilcell 6 61 51 (.waits [])]⟩, [.cells 32 63, .cells 32 63, .rows 51, .rows 51]⟩
def zq45ae0 : EndD (Stake × Stake) := ⟨(LQ.map (LQ.skip (LQ.const (.ptr 0 0)) (LQ.skip (LQ.const (.ptr 1 0)) (LQ.seq (LP.q bankL) (LQ.seq (LP.q validatorsL) (LQ.seq (LP.q (a4L (a6L (LP.one intP)))) (LQ.skip (LQ.const (.own 2)) (LQ.seq (Par.q intP) (LQ.seq (LP.q bankL) (LQ.seq (LP.q validatorsL) (LQ.seq (LP.q (a4L (a6L (LP.one intP)))) (LQ.skip (LQ.const (.own 3)) (LQ.seq (Par.q intP) (LQ.seq (Par.q waitsP) (Par.q waitsP)))))))))))))) (fun x : Bank × Validators × (A4 (A6 Int)) × Int × Bank × Validators × (A4 (A6 Int)) × Int × (List Wait) × (List Wait) => (((⟨x.1, x.2.1, x.2.2.1, x.2.2.2.2.2.2.2.2.1, x.2.2.2.1⟩ : Stake), (⟨x.2.2.2.2.1, x.2.2.2.2.2.1, x.2.2.2.2.2.2.1, x.2.2.2.2.2.2.2.2.2, x.2.2.2.2.2.2.2.1⟩ : Stake)) : Stake × Stake)) (fun y => (y.1.Bank, y.1.Validators, y.1.Shares, y.1.Next, y.2.Bank, y.2.Validators, y.2.Shares, y.2.Next, y.1.Waits, y.2.Waits)) (fun _ => rfl)), ⟨[3, 6], [.nilcell 3 61 51 (.waits []), .nilcell 6 61 51 (.waits [])]⟩, [.cells 32 63, .cells 32 63, .rows 51, .rows 51]⟩
def zl45a : St → Option LR := L1 44 6 0 zq45a (.exit 0) zq45ae0 (fun s => T_stake_Release_l1 s.1 s.2.1 s.2.2.1 s.2.2.2.1 s.2.2.2.2.1 s.2.2.2.2.2)
theorem zk45a : PieceOk (zy45).env 0 (sub zc45 [0, 1, 0, 1, 1, 1]) zl45a :=
  loop1 (A := za45a) zh45 Facts.mix trivial (k := loopB (sub zc45 [0, 1, 0, 1, 1, 1])) (by kernel_rfl) rfl (by rintro ⟨x0, x1, x2, x3, x4, x5⟩; kernel_rfl)
def za45 : Ann := ⟨[([0, 1, 0, 1, 1, 1], zl45a)], [], [], zv45, []⟩
def T_stake_Release (a0 : Stake) (a1 : Int) (a2 : Int) : Tr (Stake) :=
  (.ite ((decide (a1 < 0)) || (decide (a1 ≥ 2)))
    (.leaf a0)
    (.bind (sh_slices_Clone_api_Wait a0.Waits) fun v1 =>
    (.bind (sh_stake_Release_l1 a1 a2 ((v1.length : Nat) : Int) 0 ({ (a0 : Stake) with Waits := v1 }) (default : Stake)) fun v2 =>
    (.leaf v2.1))))
def sh_stake_Release (a0 : Stake) (a1 : Int) (a2 : Int) : Option (Stake) := (T_stake_Release a0 a1 a2).run
def zr45 : LQ (Stake × Int × Int) := (LQ.seq (Par.q (Par.ofLP stakeL)) (LQ.seq (Par.q intP) (Par.q intP)))
def qr_stake_Release : LQ (Stake) := (Par.q (Par.ofLP stakeL))
def F_stake_Release : SpecT := specF 0 zr45 3 [] (fun s => T_stake_Release s.1 s.2.1 s.2.2) default qr_stake_Release 1 []
theorem ok_stake_Release : SpecOk Try.prog 46 (F_stake_Release).spec :=
  specF_ok (A := za45) zh45 Facts.mix Try.func46 (c := zc45) (by kernel_rfl) (Lc := 0) ⟨zk45a, trivial⟩ zr45 3 6 [] (fun s => T_stake_Release s.1 s.2.1 s.2.2) default qr_stake_Release 1 [] [.pubB 6] (by decide) (by kernel_rfl) (by rfl) (by decide) (by decide) (by rfl)
    (by rintro ⟨a0, a1, a2⟩; kernel_rfl)

noncomputable def zc46 : Code := Try.f26.body.getD .skip
def zv46 : List (List Nat) := [[1, 2, 4], [1, 2, 4, 15], [4, 5, 6], [1, 2, 4, 7], [1, 2, 4, 7, 8], [1, 2, 4, 7, 8, 18, 19, 20], [1, 2, 4, 7, 8, 18, 19, 20, 21], [1, 2, 4, 7, 8, 10, 18, 19, 20], [1, 2, 4, 7, 8, 10, 18, 19, 20, 33], [1, 2, 4, 7, 8, 18, 19, 20], [1, 2, 4, 7, 8, 10, 11, 12, 18, 19, 20], [1, 2, 4, 7, 8, 10, 11, 12, 18, 19, 20, 49], [4, 5, 6], [1, 2, 4, 7, 8, 10, 18, 19, 20], [1, 2, 4, 7, 8, 18, 19, 20], [1, 2, 4, 7, 8, 18, 19, 20], [2, 4, 8], [4, 5, 6]]
noncomputable def zy46 : EnvT := ⟨Try.prog, lookT [(19, F_stake_Good), (68, F_bank_Pay)]⟩
theorem zh46 : (zy46).Ok := lookT_ok ⟨ok_stake_Good, ok_bank_Pay, trivial⟩
def T_stake_Pay_l1 (x0 : Int) (x1 : (List Wait)) (x2 : Int) (x3 : Int) (x4 : Stake) (x5 : Stake) (x6 : (List Wait)) (x7 : (List Int)) : Tr ((Int × (List Wait) × Int × Int × Stake × Stake × (List Wait) × (List Int)) ⊕ (((List Int) × Int × Stake) ⊕ (Stake × Stake × (List Wait) × (List Int)))) :=
  (.ite (decide (x3 < x2))
    (.guard ((0 : Int) ≤ x3 ∧ x3 < ((Sl.len (.waits x1) : Nat) : Int))
    (.ite ((decide (((x1.getD x3.toNat default).Due) > x0)) || (!((((x1.getD x3.toNat default).h0) == 0) && ((((x1.getD x3.toNat default).h1) == 0) && true))))
      (.guard ((Sl.len (.waits x6) + Sl.len (.waits [(x1.getD x3.toNat default)])) * 64 ≤ 140737488355328)
      (.leaf (.inl (x0, x1, x2, IntKind.i64.wrap (x3 + 1), x4, x5, x6 ++ [(x1.getD x3.toNat default)], x7))))
      (.bind (sh_bank_Pay x4.Bank ((x1.getD x3.toNat default).D) ((x1.getD x3.toNat default).Amount)) fun v2 =>
      (.ite (v2.2 != 0)
        (.leaf (.inr (.inl ([], v2.2, x4))))
        (.guard ((Sl.len (.ints x7) + Sl.len (.ints [(x1.getD x3.toNat default).Number])) * 8 ≤ 140737488355328)
        (.leaf (.inl (x0, x1, x2, IntKind.i64.wrap (x3 + 1), { (x4 : Stake) with Bank := v2.1 }, x5, x6, x7 ++ [(x1.getD x3.toNat default).Number]))))))))
    (.leaf (.inr (.inr (x4, x5, x6, x7)))))
def sh_stake_Pay_l1 (x0 : Int) (x1 : (List Wait)) (x2 : Int) (x3 : Int) (x4 : Stake) (x5 : Stake) (x6 : (List Wait)) (x7 : (List Int)) : Option (((List Int) × Int × Stake) ⊕ (Stake × Stake × (List Wait) × (List Int))) := iter (fun s : Int × (List Wait) × Int × Int × Stake × Stake × (List Wait) × (List Int) => (T_stake_Pay_l1 s.1 s.2.1 s.2.2.1 s.2.2.2.1 s.2.2.2.2.1 s.2.2.2.2.2.1 s.2.2.2.2.2.2.1 s.2.2.2.2.2.2.2).run) (x0, x1, x2, x3, x4, x5, x6, x7)
def za46a : Ann := ⟨[], [], [], zv46, []⟩
def zq46a : EndD (Int × (List Wait) × Int × Int × Stake × Stake × (List Wait) × (List Int)) := ⟨(LQ.map (LQ.seq (Par.q intP) (LQ.skip (LQ.const (.ptr 0 0)) (LQ.skip (LQ.const (.ptr 1 0)) (LQ.skip (LQ.const (.own 2)) (LQ.skip (LQ.const (.own 3)) (LQ.seq (Par.q waitsP) (LQ.seq (Par.q intP) (LQ.seq (Par.q intP) (LQ.seq (LP.q stakeL) (LQ.seq (LP.q bankL) (LQ.seq (LP.q validatorsL) (LQ.seq (LP.q (a4L (a6L (LP.one intP)))) (LQ.skip (LQ.const (.own 4)) (LQ.seq (Par.q intP) (LQ.seq (Par.q waitsP) (LQ.seq (Par.q intsP) (Par.q waitsP))))))))))))))))) (fun x : Int × (List Wait) × Int × Int × Stake × Bank × Validators × (A4 (A6 Int)) × Int × (List Wait) × (List Int) × (List Wait) => ((x.1, x.2.1, x.2.2.1, x.2.2.2.1, x.2.2.2.2.1, (⟨x.2.2.2.2.2.1, x.2.2.2.2.2.2.1, x.2.2.2.2.2.2.2.1, x.2.2.2.2.2.2.2.2.2.2.2, x.2.2.2.2.2.2.2.2.1⟩ : Stake), x.2.2.2.2.2.2.2.2.2.1, x.2.2.2.2.2.2.2.2.2.2.1) : Int × (List Wait) × Int × Int × Stake × Stake × (List Wait) × (List Int))) (fun y => (y.1, y.2.1, y.2.2.1, y.2.2.2.1, y.2.2.2.2.1, y.2.2.2.2.2.1.Bank, y.2.2.2.2.2.1.Validators, y.2.2.2.2.2.1.Shares, y.2.2.2.2.2.1.Next, y.2.2.2.2.2.2.1, y.2.2.2.2.2.2.2, y.2.2.2.2.2.1.Waits)) (fun _ => rfl)), ⟨[1, 2, 4, 7, 8, 18, 19, 20], [.nilcell 4 61 51 (.waits []), .nilown 7 51 (.waits []), .nilown 8 3 (.ints []), .pub 18, .nilsl 18 (.waits [])]⟩, [.cells 32 63, .cells 32 63, .rows 51, .rows 3, .rows 51]⟩
def zq46ae0 : EndD ((List Int) × Int × Stake) := ⟨(LQ.skip (LQ.const (.ptr 0 0)) (LQ.seq (Par.q intsP) (LQ.seq (Par.q intP) (LP.q stakeL)))), ⟨[4, 5, 6], [.pubB 4, .pub 5, .nilsl 5 (.ints [])]⟩, [.cells 32 63]⟩
def zq46ae1 : EndD (Stake × Stake × (List Wait) × (List Int)) := ⟨(LQ.map (LQ.skip (LQ.const (.ptr 0 0)) (LQ.skip (LQ.const (.ptr 1 0)) (LQ.skip (LQ.const (.own 2)) (LQ.skip (LQ.const (.own 3)) (LQ.seq (LP.q stakeL) (LQ.seq (LP.q bankL) (LQ.seq (LP.q validatorsL) (LQ.seq (LP.q (a4L (a6L (LP.one intP)))) (LQ.skip (LQ.const (.own 4)) (LQ.seq (Par.q intP) (LQ.seq (Par.q waitsP) (LQ.seq (Par.q intsP) (Par.q waitsP))))))))))))) (fun x : Stake × Bank × Validators × (A4 (A6 Int)) × Int × (List Wait) × (List Int) × (List Wait) => ((x.1, (⟨x.2.1, x.2.2.1, x.2.2.2.1, x.2.2.2.2.2.2.2, x.2.2.2.2.1⟩ : Stake), x.2.2.2.2.2.1, x.2.2.2.2.2.2.1) : Stake × Stake × (List Wait) × (List Int))) (fun y => (y.1, y.2.1.Bank, y.2.1.Validators, y.2.1.Shares, y.2.1.Next, y.2.2.1, y.2.2.2, y.2.1.Waits)) (fun _ => rfl)), ⟨[2, 4, 7, 8], [.nilcell 4 61 51 (.waits []), .nilown 7 51 (.waits []), .nilown 8 3 (.ints [])]⟩, [.cells 32 63, .cells 32 63, .rows 51, .rows 3, .rows 51]⟩
def zl46a : St → Option LR := L2 64 11 0 zq46a .ret zq46ae0 (.exit 0) zq46ae1 (fun s => T_stake_Pay_l1 s.1 s.2.1 s.2.2.1 s.2.2.2.1 s.2.2.2.2.1 s.2.2.2.2.2.1 s.2.2.2.2.2.2.1 s.2.2.2.2.2.2.2)
theorem zk46a : PieceOk (zy46).env 0 (sub zc46 [0, 1, 0, 1, 1, 1, 1]) zl46a :=
  loop2 (A := za46a) zh46 Facts.mix trivial (k := loopB (sub zc46 [0, 1, 0, 1, 1, 1, 1])) (by kernel_rfl) rfl rfl (by rintro ⟨x0, x1, x2, x3, x4, x5, x6, x7⟩; kernel_rfl)
def za46 : Ann := ⟨[([0, 1, 0, 1, 1, 1, 1], zl46a)], [], [], zv46, []⟩
def T_stake_Pay (a0 : Stake) (a1 : Int) : Tr (Stake × (List Int) × Int) :=
  (.bind (sh_stake_Good a0) fun v1 =>
  (.ite (!v1)
    (.leaf (a0, [], 2))
    (.two (sh_stake_Pay_l1 a1 a0.Waits ((a0.Waits.length : Nat) : Int) 0 a0 (default : Stake) [] []) (fun v3 =>
      (.leaf (v3.2.2, v3.1, v3.2.1))) (fun v4 =>
      (.leaf ({ (v4.1 : Stake) with Waits := v4.2.2.1 }, v4.2.2.2, 0))))))
def sh_stake_Pay (a0 : Stake) (a1 : Int) : Option (Stake × (List Int) × Int) := (T_stake_Pay a0 a1).run
def zr46 : LQ (Stake × Int) := (LQ.seq (Par.q (Par.ofLP stakeL)) (Par.q intP))
def qr_stake_Pay : LQ (Stake × (List Int) × Int) := (LQ.seq (Par.q (Par.ofLP stakeL)) (LQ.seq (Par.q intsP) (Par.q intP)))
def F_stake_Pay : SpecT := specF 0 zr46 2 [] (fun s => T_stake_Pay s.1 s.2) default qr_stake_Pay 3 []
theorem ok_stake_Pay : SpecOk Try.prog 26 (F_stake_Pay).spec :=
  specF_ok (A := za46) zh46 Facts.mix Try.func26 (c := zc46) (by kernel_rfl) (Lc := 0) ⟨zk46a, trivial⟩ zr46 2 11 [] (fun s => T_stake_Pay s.1 s.2) default qr_stake_Pay 3 [] [.pubB 4, .pub 5] (by decide) (by kernel_rfl) (by rfl) (by decide) (by decide) (by rfl)
    (by rintro ⟨a0, a1⟩; kernel_rfl)

noncomputable def zc47 : Code := Try.f48.body.getD .skip
def zv47 : List (List Nat) := [[1, 2, 3, 4, 8], [1, 2, 3, 4, 8, 11], [1, 2, 3, 4, 8, 11, 26], [8, 9, 10], [1, 2, 3, 4, 8, 12], [1, 2, 3, 4, 8, 12, 13, 14], [1, 2, 3, 4, 8, 12, 13, 14, 42], [8, 9, 10], [1, 2, 3, 4, 8, 12, 13, 15], [1, 2, 3, 4, 8, 12, 13, 15, 16], [1, 2, 3, 4, 8, 12, 13, 15, 16, 49, 50], [1, 2, 3, 4, 8, 12, 13, 15, 16, 49, 50, 51], [1, 2, 3, 4, 8, 12, 13, 15, 16, 17, 49, 50], [1, 2, 3, 4, 8, 12, 13, 15, 16, 18, 49, 50], [1, 2, 3, 4, 8, 12, 13, 15, 16, 18, 49, 50, 69], [1, 2, 3, 4, 8, 12, 13, 15, 16, 18, 19, 49, 50], [1, 2, 3, 4, 8, 12, 13, 15, 16, 19, 49, 50], [1, 2, 3, 4, 8, 12, 13, 15, 16, 49, 50], [1, 2, 3, 4, 8, 12, 13, 15, 16, 49, 50], [4, 8, 12, 13, 14, 15, 16, 21], [4, 8, 12, 13, 14, 15, 16, 21, 100], [8, 9, 10], [4, 8, 12, 13, 16], [4, 8, 13, 16], [8, 9, 10]]
noncomputable def zy47 : EnvT := ⟨Try.prog, lookT [(52, F_stake_known), (76, F_ratio_Part), (73, F_slices_Clone_api_Wait), (77, F_bank_Burn)]⟩
theorem zh47 : (zy47).Ok := lookT_ok ⟨ok_stake_known, ok_ratio_Part, ok_slices_Clone_api_Wait, ok_bank_Burn, trivial⟩
def T_stake_Slash_l1 (x0 : Int) (x1 : Int) (x2 : Int) (x3 : Int) (x4 : Int) (x5 : Int) (x6 : Int) (x7 : Int) (x8 : Stake) (x9 : Stake) (x10 : (List Wait)) : Tr ((Int × Int × Int × Int × Int × Int × Int × Int × Stake × Stake × (List Wait)) ⊕ (Int × Int × Int × Stake × Stake × (List Wait))) :=
  (.ite (decide (x7 < x6))
    (.guard ((0 : Int) ≤ x7 ∧ x7 < ((Sl.len (.waits x10) : Nat) : Int))
    (.ite ((((x10.getD x7.toNat default).V) == x0) && (decide (((x10.getD x7.toNat default).Height) ≥ x1)))
      (.bind (sh_ratio_Part ((x10.getD x7.toNat default).Amount) x2) fun v4 =>
      (.leaf (.inl (x0, x1, x2, x3, x4, IntKind.i64.wrap (x5 + v4.1), x6, IntKind.i64.wrap (x7 + 1), x8, x9, x10.set x7.toNat ({ ((x10.getD x7.toNat default) : Wait) with Amount := IntKind.i64.wrap (((x10.getD x7.toNat default).Amount) - v4.1) })))))
      (.leaf (.inl (x0, x1, x2, x3, x4, x5, x6, IntKind.i64.wrap (x7 + 1), x8, x9, x10)))))
    (.leaf (.inr (x3, x4, x5, x8, x9, x10))))
def sh_stake_Slash_l1 (x0 : Int) (x1 : Int) (x2 : Int) (x3 : Int) (x4 : Int) (x5 : Int) (x6 : Int) (x7 : Int) (x8 : Stake) (x9 : Stake) (x10 : (List Wait)) : Option (Int × Int × Int × Stake × Stake × (List Wait)) := iter (fun s : Int × Int × Int × Int × Int × Int × Int × Int × Stake × Stake × (List Wait) => (T_stake_Slash_l1 s.1 s.2.1 s.2.2.1 s.2.2.2.1 s.2.2.2.2.1 s.2.2.2.2.2.1 s.2.2.2.2.2.2.1 s.2.2.2.2.2.2.2.1 s.2.2.2.2.2.2.2.2.1 s.2.2.2.2.2.2.2.2.2.1 s.2.2.2.2.2.2.2.2.2.2).run) (x0, x1, x2, x3, x4, x5, x6, x7, x8, x9, x10)
def za47a : Ann := ⟨[], [], [], zv47, []⟩
def zq47a : EndD (Int × Int × Int × Int × Int × Int × Int × Int × Stake × Stake × (List Wait)) := ⟨(LQ.map (LQ.seq (Par.q intP) (LQ.seq (Par.q intP) (LQ.seq (Par.q intP) (LQ.skip (LQ.const (.ptr 0 0)) (LQ.skip (LQ.const (.ptr 1 0)) (LQ.seq (LQ.pix1 0 7 6 5 0) (LQ.seq (Par.q intP) (LQ.skip (LQ.const (.own 2)) (LQ.seq (Par.q intP) (LQ.seq (Par.q intP) (LQ.seq (Par.q intP) (LQ.seq (LP.q stakeL) (LQ.seq (LP.q bankL) (LQ.seq (LP.q validatorsL) (LQ.seq (LP.q (a4L (a6L (LP.one intP)))) (LQ.skip (LQ.const (.own 3)) (LQ.seq (Par.q intP) (LQ.seq (Par.q waitsP) (Par.q waitsP))))))))))))))))))) (fun x : Int × Int × Int × Int × Int × Int × Int × Int × Stake × Bank × Validators × (A4 (A6 Int)) × Int × (List Wait) × (List Wait) => ((x.1, x.2.1, x.2.2.1, x.2.2.2.1, x.2.2.2.2.1, x.2.2.2.2.2.1, x.2.2.2.2.2.2.1, x.2.2.2.2.2.2.2.1, x.2.2.2.2.2.2.2.2.1, (⟨x.2.2.2.2.2.2.2.2.2.1, x.2.2.2.2.2.2.2.2.2.2.1, x.2.2.2.2.2.2.2.2.2.2.2.1, x.2.2.2.2.2.2.2.2.2.2.2.2.2.2, x.2.2.2.2.2.2.2.2.2.2.2.2.1⟩ : Stake), x.2.2.2.2.2.2.2.2.2.2.2.2.2.1) : Int × Int × Int × Int × Int × Int × Int × Int × Stake × Stake × (List Wait))) (fun y => (y.1, y.2.1, y.2.2.1, y.2.2.2.1, y.2.2.2.2.1, y.2.2.2.2.2.1, y.2.2.2.2.2.2.1, y.2.2.2.2.2.2.2.1, y.2.2.2.2.2.2.2.2.1, y.2.2.2.2.2.2.2.2.2.1.Bank, y.2.2.2.2.2.2.2.2.2.1.Validators, y.2.2.2.2.2.2.2.2.2.1.Shares, y.2.2.2.2.2.2.2.2.2.1.Next, y.2.2.2.2.2.2.2.2.2.2, y.2.2.2.2.2.2.2.2.2.1.Waits)) (fun _ => rfl)), ⟨[1, 2, 3, 4, 8, 12, 13, 15, 16, 49, 50], [.nilcell 8 61 51 (.waits []), .nilown 15 51 (.waits [])]⟩, [.cells 32 63, .cells 32 63, .rows 51, .rows 51]⟩
def zq47ae0 : EndD (Int × Int × Int × Stake × Stake × (List Wait)) := ⟨(LQ.map (LQ.skip (LQ.const (.ptr 0 0)) (LQ.skip (LQ.const (.ptr 1 0)) (LQ.seq (LQ.pix1 0 7 6 5 0) (LQ.seq (Par.q intP) (LQ.skip (LQ.const (.own 2)) (LQ.seq (Par.q intP) (LQ.seq (LP.q stakeL) (LQ.seq (LP.q bankL) (LQ.seq (LP.q validatorsL) (LQ.seq (LP.q (a4L (a6L (LP.one intP)))) (LQ.skip (LQ.const (.own 3)) (LQ.seq (Par.q intP) (LQ.seq (Par.q waitsP) (Par.q waitsP)))))))))))))) (fun x : Int × Int × Int × Stake × Bank × Validators × (A4 (A6 Int)) × Int × (List Wait) × (List Wait) => ((x.1, x.2.1, x.2.2.1, x.2.2.2.1, (⟨x.2.2.2.2.1, x.2.2.2.2.2.1, x.2.2.2.2.2.2.1, x.2.2.2.2.2.2.2.2.2, x.2.2.2.2.2.2.2.1⟩ : Stake), x.2.2.2.2.2.2.2.2.1) : Int × Int × Int × Stake × Stake × (List Wait))) (fun y => (y.1, y.2.1, y.2.2.1, y.2.2.2.1, y.2.2.2.2.1.Bank, y.2.2.2.2.1.Validators, y.2.2.2.2.1.Shares, y.2.2.2.2.1.Next, y.2.2.2.2.2, y.2.2.2.2.1.Waits)) (fun _ => rfl)), ⟨[4, 8, 12, 13, 15, 16], [.nilcell 8 61 51 (.waits []), .nilown 15 51 (.waits [])]⟩, [.cells 32 63, .cells 32 63, .rows 51, .rows 51]⟩
def zl47a : St → Option LR := L1 131 7 0 zq47a (.exit 0) zq47ae0 (fun s => T_stake_Slash_l1 s.1 s.2.1 s.2.2.1 s.2.2.2.1 s.2.2.2.2.1 s.2.2.2.2.2.1 s.2.2.2.2.2.2.1 s.2.2.2.2.2.2.2.1 s.2.2.2.2.2.2.2.2.1 s.2.2.2.2.2.2.2.2.2.1 s.2.2.2.2.2.2.2.2.2.2)
theorem zk47a : PieceOk (zy47).env 0 (sub zc47 [0, 1, 0, 1, 1, 1, 1, 1, 1, 1]) zl47a :=
  loop1 (A := za47a) zh47 Facts.mix trivial (k := loopB (sub zc47 [0, 1, 0, 1, 1, 1, 1, 1, 1, 1])) (by kernel_rfl) rfl (by rintro ⟨x0, x1, x2, x3, x4, x5, x6, x7, x8, x9, x10⟩; kernel_rfl)
def za47 : Ann := ⟨[([0, 1, 0, 1, 1, 1, 1, 1, 1, 1], zl47a)], [], [], zv47, []⟩
def T_stake_Slash (a0 : Stake) (a1 : Int) (a2 : Int) (a3 : Int) : Tr (Stake × Int × Int) :=
  (.bind (sh_stake_known a0 0 a1) fun v1 =>
  (.ite (v1 != 0)
    (.leaf (a0, 0, v1))
    (.guard ((0 : Int) ≤ a1 ∧ (a1 : Int) < 6)
    (.bind (sh_ratio_Part (a0.Validators.Tokens.get a1) a3) fun v2 =>
    (.ite (v2.2 != 0)
      (.leaf (a0, 0, v2.2))
      (.bind (sh_slices_Clone_api_Wait a0.Waits) fun v3 =>
      (.bind (sh_stake_Slash_l1 a1 a2 a3 a1 v2.1 0 ((v3.length : Nat) : Int) 0 a0 (default : Stake) v3) fun v5 =>
      (.bind (sh_bank_Burn v5.2.2.2.1.Bank v5.2.1 v5.2.2.1) fun v6 =>
      (.ite (v6.2 != 0)
        (.leaf (v5.2.2.2.1, 0, v6.2))
        (.leaf ((⟨v6.1, { (v5.2.2.2.1.Validators : Validators) with Tokens := (v5.2.2.2.1.Validators.Tokens.set v5.1 (IntKind.i64.wrap ((v5.2.2.2.1.Validators.Tokens.get v5.1) - v5.2.1))), Lost := (v5.2.2.2.1.Validators.Lost.set v5.1 (IntKind.i64.wrap ((IntKind.i64.wrap ((v5.2.2.2.1.Validators.Lost.get v5.1) + v5.2.1)) + v5.2.2.1))) }, v5.2.2.2.1.Shares, v5.2.2.2.2.2, v5.2.2.2.1.Next⟩ : Stake), IntKind.i64.wrap (v5.2.1 + v5.2.2.1), 0)))))))))))
def sh_stake_Slash (a0 : Stake) (a1 : Int) (a2 : Int) (a3 : Int) : Option (Stake × Int × Int) := (T_stake_Slash a0 a1 a2 a3).run
def zr47 : LQ (Stake × Int × Int × Int) := (LQ.seq (Par.q (Par.ofLP stakeL)) (LQ.seq (Par.q intP) (LQ.seq (Par.q intP) (Par.q intP))))
def qr_stake_Slash : LQ (Stake × Int × Int) := (LQ.seq (Par.q (Par.ofLP stakeL)) (LQ.seq (Par.q intP) (Par.q intP)))
def F_stake_Slash : SpecT := specF 0 zr47 4 [] (fun s => T_stake_Slash s.1 s.2.1 s.2.2.1 s.2.2.2) default qr_stake_Slash 3 []
theorem ok_stake_Slash : SpecOk Try.prog 48 (F_stake_Slash).spec :=
  specF_ok (A := za47) zh47 Facts.mix Try.func48 (c := zc47) (by kernel_rfl) (Lc := 0) ⟨zk47a, trivial⟩ zr47 4 7 [] (fun s => T_stake_Slash s.1 s.2.1 s.2.2.1 s.2.2.2) default qr_stake_Slash 3 [] [.pubB 8] (by decide) (by kernel_rfl) (by rfl) (by decide) (by decide) (by rfl)
    (by rintro ⟨a0, a1, a2, a3⟩; kernel_rfl)

noncomputable def zc48 : Code := Try.f27.body.getD .skip
def zv48 : List (List Nat) := [[1, 2, 4], [1, 2, 4, 6], [1, 2, 4, 6, 11], [4, 5], [1, 2, 4, 18], [4, 5], [2, 4], [4, 5]]
noncomputable def zy48 : EnvT := ⟨Try.prog, lookT [(52, F_stake_known)]⟩
theorem zh48 : (zy48).Ok := lookT_ok ⟨ok_stake_known, trivial⟩
def za48 : Ann := ⟨[], [], [], zv48, []⟩
def T_stake_Jail (a0 : Stake) (a1 : Int) : Tr (Stake × Int) :=
  (.bind (sh_stake_known a0 0 a1) fun v1 =>
  (.ite (v1 != 0)
    (.leaf (a0, v1))
    (.guard ((0 : Int) ≤ a1 ∧ (a1 : Int) < 6)
    (.ite (a0.Validators.Jailed.get a1)
      (.leaf (a0, 14))
      (.guard ((0 : Int) ≤ a1 ∧ (a1 : Int) < 6)
      (.leaf ({ (a0 : Stake) with Validators := { (a0.Validators : Validators) with Jailed := (a0.Validators.Jailed.set a1 true) } }, 0)))))))
def sh_stake_Jail (a0 : Stake) (a1 : Int) : Option (Stake × Int) := (T_stake_Jail a0 a1).run
def zr48 : LQ (Stake × Int) := (LQ.seq (Par.q (Par.ofLP stakeL)) (Par.q intP))
def qr_stake_Jail : LQ (Stake × Int) := (LQ.seq (Par.q (Par.ofLP stakeL)) (Par.q intP))
def F_stake_Jail : SpecT := specF 0 zr48 2 [] (fun s => T_stake_Jail s.1 s.2) default qr_stake_Jail 2 []
theorem ok_stake_Jail : SpecOk Try.prog 27 (F_stake_Jail).spec :=
  specF_ok (A := za48) zh48 Facts.mix Try.func27 (c := zc48) (by kernel_rfl) (Lc := 0) trivial zr48 2 4 [] (fun s => T_stake_Jail s.1 s.2) default qr_stake_Jail 2 [] [.pubB 4] (by decide) (by kernel_rfl) (by rfl) (by decide) (by decide) (by rfl)
    (by rintro ⟨a0, a1⟩; kernel_rfl)

noncomputable def zc49 : Code := Try.f29.body.getD .skip
def zv49 : List (List Nat) := [[1, 2, 4], [1, 2, 4, 6], [1, 2, 4, 6, 12], [4, 5], [2, 4, 7], [2, 4], [2, 4, 7, 21], [4, 5], [2, 4, 7, 27], [4, 5], [4, 5]]
noncomputable def zy49 : EnvT := ⟨Try.prog, lookT [(52, F_stake_known)]⟩
theorem zh49 : (zy49).Ok := lookT_ok ⟨ok_stake_known, trivial⟩
def za49 : Ann := ⟨[], [], [], zv49, []⟩
def T_stake_Unjail (a0 : Stake) (a1 : Int) : Tr (Stake × Int) :=
  (.bind (sh_stake_known a0 0 a1) fun v1 =>
  (.ite (v1 != 0)
    (.leaf (a0, v1))
    (.guard ((0 : Int) ≤ a1 ∧ (a1 : Int) < 6)
    (.ite (a0.Validators.Dead.get a1)
      (.leaf (a0, 15))
      (.ite (!(a0.Validators.Jailed.get a1))
        (.leaf (a0, 4))
        (.leaf ({ (a0 : Stake) with Validators := { (a0.Validators : Validators) with Jailed := (a0.Validators.Jailed.set a1 false) } }, 0)))))))
def sh_stake_Unjail (a0 : Stake) (a1 : Int) : Option (Stake × Int) := (T_stake_Unjail a0 a1).run
def zr49 : LQ (Stake × Int) := (LQ.seq (Par.q (Par.ofLP stakeL)) (Par.q intP))
def qr_stake_Unjail : LQ (Stake × Int) := (LQ.seq (Par.q (Par.ofLP stakeL)) (Par.q intP))
def F_stake_Unjail : SpecT := specF 0 zr49 2 [] (fun s => T_stake_Unjail s.1 s.2) default qr_stake_Unjail 2 []
theorem ok_stake_Unjail : SpecOk Try.prog 29 (F_stake_Unjail).spec :=
  specF_ok (A := za49) zh49 Facts.mix Try.func29 (c := zc49) (by kernel_rfl) (Lc := 0) trivial zr49 2 4 [] (fun s => T_stake_Unjail s.1 s.2) default qr_stake_Unjail 2 [] [.pubB 4] (by decide) (by kernel_rfl) (by rfl) (by decide) (by decide) (by rfl)
    (by rintro ⟨a0, a1⟩; kernel_rfl)

noncomputable def zc50 : Code := Try.f30.body.getD .skip
def zv50 : List (List Nat) := [[1, 2, 4], [1, 2, 4, 6], [1, 2, 4, 6, 11], [4, 5], [1, 2, 4, 18], [4, 5], [2, 4], [4, 5]]
noncomputable def zy50 : EnvT := ⟨Try.prog, lookT [(52, F_stake_known)]⟩
theorem zh50 : (zy50).Ok := lookT_ok ⟨ok_stake_known, trivial⟩
def za50 : Ann := ⟨[], [], [], zv50, []⟩
def T_stake_Bury (a0 : Stake) (a1 : Int) : Tr (Stake × Int) :=
  (.bind (sh_stake_known a0 0 a1) fun v1 =>
  (.ite (v1 != 0)
    (.leaf (a0, v1))
    (.guard ((0 : Int) ≤ a1 ∧ (a1 : Int) < 6)
    (.ite (a0.Validators.Dead.get a1)
      (.leaf (a0, 15))
      (.guard ((0 : Int) ≤ a1 ∧ (a1 : Int) < 6)
      (.guard ((0 : Int) ≤ a1 ∧ (a1 : Int) < 6)
      (.leaf ({ (a0 : Stake) with Validators := { (a0.Validators : Validators) with Jailed := (a0.Validators.Jailed.set a1 true), Dead := (a0.Validators.Dead.set a1 true) } }, 0))))))))
def sh_stake_Bury (a0 : Stake) (a1 : Int) : Option (Stake × Int) := (T_stake_Bury a0 a1).run
def zr50 : LQ (Stake × Int) := (LQ.seq (Par.q (Par.ofLP stakeL)) (Par.q intP))
def qr_stake_Bury : LQ (Stake × Int) := (LQ.seq (Par.q (Par.ofLP stakeL)) (Par.q intP))
def F_stake_Bury : SpecT := specF 0 zr50 2 [] (fun s => T_stake_Bury s.1 s.2) default qr_stake_Bury 2 []
theorem ok_stake_Bury : SpecOk Try.prog 30 (F_stake_Bury).spec :=
  specF_ok (A := za50) zh50 Facts.mix Try.func30 (c := zc50) (by kernel_rfl) (Lc := 0) trivial zr50 2 4 [] (fun s => T_stake_Bury s.1 s.2) default qr_stake_Bury 2 [] [.pubB 4] (by decide) (by kernel_rfl) (by rfl) (by decide) (by decide) (by rfl)
    (by rintro ⟨a0, a1⟩; kernel_rfl)

end
end Go.Proofs.Ytbpehnghffljiaa.Ab
