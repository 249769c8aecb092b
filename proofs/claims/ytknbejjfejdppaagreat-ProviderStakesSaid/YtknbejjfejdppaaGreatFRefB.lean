/-
  The functions, each by its tree.
-/
import Derived.Test.YtknbejjfejdppaaGreatFacts
import Derived.Test.YtknbejjfejdppaaGreatAbStructs
import Derived.Test.YtknbejjfejdppaaGreatAbFun
import Derived.Test.YtknbejjfejdppaaGreatFRatio
import Derived.Test.YtknbejjfejdppaaGreatFBank
import Derived.Test.YtknbejjfejdppaaGreatFRefA
namespace Go.Proofs.YtknbejjfejdppaaGreat.Ab
open Go Go.RowKit
set_option maxRecDepth 100000
set_option linter.unusedVariables false
set_option linter.unusedSimpArgs false
noncomputable section

noncomputable def zc98 : Code := Tryz.f92.body.getD .skip
def zv98 : List (List Nat) := [[1, 2, 3, 5, 9, 10], [1, 2, 3, 5, 9, 10, 12], [1, 2, 3, 5, 9, 10, 12, 24], [10, 11], [1, 2, 3, 5, 9, 10, 42], [10, 11], [1, 2, 3, 5, 9, 10, 51], [10, 11], [1, 2, 3, 5, 9, 10, 61], [10, 11], [1, 2, 3, 5, 9, 10, 13], [1, 2, 3, 5, 9, 10, 14], [1, 2, 3, 5, 9, 10, 14, 77], [10, 11], [1, 2, 3, 5, 9, 10, 14, 16, 17], [1, 2, 3, 5, 9, 10, 14, 16, 17, 87], [10, 11], [1, 2, 3, 5, 9, 10, 14, 16, 18], [1, 2, 3, 5, 9, 10, 14, 18], [1, 2, 3, 5, 9, 10, 14, 18], [1, 2, 3, 5, 9, 10, 14, 18], [1, 2, 5, 9, 10, 14, 18], [5, 10, 18], [10, 18], [10, 11]]
noncomputable def zy98 : EnvT := ⟨Tryz.prog, lookT [(112, F_ref_some), (130, F_ref_MulDiv), (135, F_ref_Unbond), (40, F_ref_CopyStake_o)]⟩
theorem zh98 : (zy98).Ok := lookT_ok ⟨ok_ref_some, ok_ref_MulDiv, ok_ref_Unbond, ok_ref_CopyStake_o, trivial⟩
def za98 : Ann := ⟨[], [], [], zv98, []⟩
def T_ref_Undelegate (a0 : Stake) (a1 : Int) (a2 : Int) (a3 : Int) (a4 : Wait) : Tr (Stake × Int) :=
  (.bind (sh_ref_some a0 a1 a2) fun v1 =>
  (.ite (v1 != 0)
    (.leaf (a0, v1))
    (.ite ((((decide (a3 < 1)) || (decide (a3 > 1125899906842624))) || (decide (a4.Height < 0))) || (decide (a4.Due < 0)))
      (.leaf (a0, 2))
      (.guard ((0 : Int) ≤ a1 ∧ (a1 : Int) < 4)
      (.guard ((0 : Int) ≤ a2 ∧ (a2 : Int) < 6)
      (.ite (decide (a3 > (A46.get a0.Shares a1 a2)))
        (.leaf (a0, 7))
        (.ite ((((a0.Waits.length : Nat) : Int) == 60) || (a0.Next == 1125899906842624))
          (.leaf (a0, 6))
          (.guard ((0 : Int) ≤ a2 ∧ (a2 : Int) < 6)
          (.bind (sh_ref_MulDiv a3 (a0.Validators.Tokens.get a2) (a0.Validators.Shares.get a2)) fun v2 =>
          (.ite (decide (v2.1 < 1))
            (.leaf (a0, 8))
            (.bind (sh_ref_Unbond a0.Bank v2.1) fun v3 =>
            (.ite (v3.2 != 0)
              (.leaf (a0, v3.2))
              (.bind (sh_ref_CopyStake_o a0) fun v4 =>
              (.guard ((0 : Int) ≤ a2 ∧ (a2 : Int) < 6)
              (.guard ((0 : Int) ≤ a2 ∧ (a2 : Int) < 6)
              (.guard ((0 : Int) ≤ a2 ∧ (a2 : Int) < 6)
              (.guard ((0 : Int) ≤ a2 ∧ (a2 : Int) < 6)
              (.guard ((0 : Int) ≤ a1 ∧ (a1 : Int) < 4)
              (.guard ((0 : Int) ≤ a2 ∧ (a2 : Int) < 6)
              (.guard ((0 : Int) ≤ a1 ∧ (a1 : Int) < 4)
              (.guard ((0 : Int) ≤ a2 ∧ (a2 : Int) < 6)
              (.guard ((Sl.len (.waits v4.Waits) + Sl.len (.waits [{ (a4 : Wait) with Number := a0.Next, D := a1, V := a2, Amount := v2.1 }])) * 64 ≤ 140737488355328)
              (.leaf ((⟨v3.1, { (v4.Validators : Validators) with Tokens := (v4.Validators.Tokens.set a2 (IntKind.i64.wrap ((v4.Validators.Tokens.get a2) - v2.1))), Shares := (v4.Validators.Shares.set a2 (IntKind.i64.wrap ((v4.Validators.Shares.get a2) - a3))) }, (A46.set v4.Shares a1 a2 (IntKind.i64.wrap ((A46.get v4.Shares a1 a2) - a3))), v4.Waits ++ [{ (a4 : Wait) with Number := a0.Next, D := a1, V := a2, Amount := v2.1 }], IntKind.i64.wrap (a0.Next + 1)⟩ : Stake), 0))))))))))))))))))))))))
def sh_ref_Undelegate (a0 : Stake) (a1 : Int) (a2 : Int) (a3 : Int) (a4 : Wait) : Option (Stake × Int) := (T_ref_Undelegate a0 a1 a2 a3 a4).run
def zr98 : LQ (Stake × Int × Int × Int × Wait) := (LQ.seq (Par.q (Par.ofLP stakeL)) (LQ.seq (Par.q intP) (LQ.seq (Par.q intP) (LQ.seq (Par.q intP) (Par.q (Par.ofLP waitL))))))
def qr_ref_Undelegate : LQ (Stake × Int) := (LQ.seq (Par.q (Par.ofLP stakeL)) (Par.q intP))
def F_ref_Undelegate : SpecT := specF 0 zr98 5 [] (fun s => T_ref_Undelegate s.1 s.2.1 s.2.2.1 s.2.2.2.1 s.2.2.2.2) default qr_ref_Undelegate 2 []
theorem ok_ref_Undelegate : SpecOk Tryz.prog 92 (F_ref_Undelegate).spec :=
  specF_ok (A := za98) zh98 Facts.mix Tryz.func92 (c := zc98) (by kernel_rfl) (Lc := 0) trivial zr98 5 11 [] (fun s => T_ref_Undelegate s.1 s.2.1 s.2.2.1 s.2.2.2.1 s.2.2.2.2) default qr_ref_Undelegate 2 [] [.pubB 10] (by decide) (by kernel_rfl) (by rfl) (by decide) (by decide) (by rfl)
    (by rintro ⟨a0, a1, a2, a3, a4⟩; kernel_rfl)

noncomputable def zc99 : Code := Tryz.f84.body.getD .skip
def zv99 : List (List Nat) := [[1, 2, 3, 6], [1, 2, 6, 7], [1, 2, 6, 7, 15, 16, 17], [1, 2, 6, 7, 15, 16, 17, 18], [1, 2, 6, 7, 8, 9, 15, 16, 17], [1, 2, 6, 7, 8, 15, 16, 17, 23, 24], [1, 2, 6, 7, 8, 15, 16, 17, 23, 24, 25], [1, 2, 6, 7, 8, 10, 11, 15, 16, 17, 23, 24], [1, 2, 6, 7, 8, 10, 15, 16, 17, 23, 24, 35], [1, 2, 6, 7, 8, 15, 16, 17, 23, 24], [1, 2, 6, 7, 8, 15, 16, 17, 23, 24], [1, 2, 6, 7, 15, 16, 17], [6]]
noncomputable def zy99 : EnvT := ⟨Tryz.prog, lookT [(40, F_ref_CopyStake_o)]⟩
theorem zh99 : (zy99).Ok := lookT_ok ⟨ok_ref_CopyStake_o, trivial⟩
def T_ref_Release_l1 (x0 : Int) (x1 : Int) (x2 : Int) (x3 : Int) (x4 : Int) (x5 : (A2 Int)) (x6 : Int) (x7 : Stake) (x8 : Stake) : Tr ((Int × Int × Int × Int × Int × (A2 Int) × Int × Stake × Stake) ⊕ (Int × Int × Int × Int × Stake × Stake)) :=
  (.ite (decide (x6 < 2))
    (.guard ((0 : Int) ≤ x6 ∧ (x6 : Int) < 2)
    (.ite ((x6 == x0) && (decide ((x5.get x6) ≤ x1)))
      (.guard ((0 : Int) ≤ x2 ∧ x2 < ((Sl.len (.waits x8.Waits) : Nat) : Int))
      (.guard ((0 : Int) ≤ x6 ∧ (x6 : Int) < 2)
      (.leaf (.inl (x0, x1, x2, x3, x4, x5, IntKind.i64.wrap (x6 + 1), x7, { (x8 : Stake) with Waits := x8.Waits.set x2.toNat ({ ((x8.Waits.getD x2.toNat default) : Wait) with h0 := if x6 = 0 then 0 else (x8.Waits.getD x2.toNat default).h0, h1 := if x6 = 1 then 0 else (x8.Waits.getD x2.toNat default).h1 }) })))))
      (.leaf (.inl (x0, x1, x2, x3, x4, x5, IntKind.i64.wrap (x6 + 1), x7, x8)))))
    (.leaf (.inr (x0, x1, x3, x4, x7, x8))))
def sh_ref_Release_l1 (x0 : Int) (x1 : Int) (x2 : Int) (x3 : Int) (x4 : Int) (x5 : (A2 Int)) (x6 : Int) (x7 : Stake) (x8 : Stake) : Option (Int × Int × Int × Int × Stake × Stake) := iter (fun s : Int × Int × Int × Int × Int × (A2 Int) × Int × Stake × Stake => (T_ref_Release_l1 s.1 s.2.1 s.2.2.1 s.2.2.2.1 s.2.2.2.2.1 s.2.2.2.2.2.1 s.2.2.2.2.2.2.1 s.2.2.2.2.2.2.2.1 s.2.2.2.2.2.2.2.2).run) (x0, x1, x2, x3, x4, x5, x6, x7, x8)
def za99a : Ann := ⟨[], [], [], zv99, []⟩
def zq99a : EndD (Int × Int × Int × Int × Int × (A2 Int) × Int × Stake × Stake) := ⟨(LQ.map (LQ.seq (Par.q intP) (LQ.seq (Par.q intP) (LQ.skip (LQ.const (.ptr 0 0)) (LQ.skip (LQ.const (.ptr 1 0)) (LQ.seq (Par.q intP) (LQ.skip (LQ.const (.own 2)) (LQ.seq (Par.q intP) (LQ.seq (Par.q intP) (LQ.seq (Par.q (Par.ofLP (a2L (LP.one intP)))) (LQ.seq (Par.q intP) (LQ.seq (LP.q stakeL) (LQ.seq (LP.q bankL) (LQ.seq (LP.q validatorsL) (LQ.seq (LP.q (a4L (a6L (LP.one intP)))) (LQ.skip (LQ.const (.own 2)) (LQ.seq (Par.q intP) (Par.q waitsP))))))))))))))))) (fun x : Int × Int × Int × Int × Int × (A2 Int) × Int × Stake × Bank × Validators × (A4 (A6 Int)) × Int × (List Wait) => ((x.1, x.2.1, x.2.2.1, x.2.2.2.1, x.2.2.2.2.1, x.2.2.2.2.2.1, x.2.2.2.2.2.2.1, x.2.2.2.2.2.2.2.1, (⟨x.2.2.2.2.2.2.2.2.1, x.2.2.2.2.2.2.2.2.2.1, x.2.2.2.2.2.2.2.2.2.2.1, x.2.2.2.2.2.2.2.2.2.2.2.2, x.2.2.2.2.2.2.2.2.2.2.2.1⟩ : Stake)) : Int × Int × Int × Int × Int × (A2 Int) × Int × Stake × Stake)) (fun y => (y.1, y.2.1, y.2.2.1, y.2.2.2.1, y.2.2.2.2.1, y.2.2.2.2.2.1, y.2.2.2.2.2.2.1, y.2.2.2.2.2.2.2.1, y.2.2.2.2.2.2.2.2.Bank, y.2.2.2.2.2.2.2.2.Validators, y.2.2.2.2.2.2.2.2.Shares, y.2.2.2.2.2.2.2.2.Next, y.2.2.2.2.2.2.2.2.Waits)) (fun _ => rfl)), ⟨[1, 2, 6, 7, 8, 15, 16, 17, 23, 24], [.nilcell 7 61 81 (.waits []), .nilown 15 81 (.waits [])]⟩, [.cells 32 63, .cells 32 63, .rows 81]⟩
def zq99ae0 : EndD (Int × Int × Int × Int × Stake × Stake) := ⟨(LQ.map (LQ.seq (Par.q intP) (LQ.seq (Par.q intP) (LQ.skip (LQ.const (.ptr 0 0)) (LQ.skip (LQ.const (.ptr 1 0)) (LQ.skip (LQ.const (.own 2)) (LQ.seq (Par.q intP) (LQ.seq (Par.q intP) (LQ.seq (LP.q stakeL) (LQ.seq (LP.q bankL) (LQ.seq (LP.q validatorsL) (LQ.seq (LP.q (a4L (a6L (LP.one intP)))) (LQ.skip (LQ.const (.own 2)) (LQ.seq (Par.q intP) (Par.q waitsP)))))))))))))) (fun x : Int × Int × Int × Int × Stake × Bank × Validators × (A4 (A6 Int)) × Int × (List Wait) => ((x.1, x.2.1, x.2.2.1, x.2.2.2.1, x.2.2.2.2.1, (⟨x.2.2.2.2.2.1, x.2.2.2.2.2.2.1, x.2.2.2.2.2.2.2.1, x.2.2.2.2.2.2.2.2.2, x.2.2.2.2.2.2.2.2.1⟩ : Stake)) : Int × Int × Int × Int × Stake × Stake)) (fun y => (y.1, y.2.1, y.2.2.1, y.2.2.2.1, y.2.2.2.2.1, y.2.2.2.2.2.Bank, y.2.2.2.2.2.Validators, y.2.2.2.2.2.Shares, y.2.2.2.2.2.Next, y.2.2.2.2.2.Waits)) (fun _ => rfl)), ⟨[1, 2, 6, 7, 15, 16, 17], [.nilcell 7 61 81 (.waits []), .nilown 15 81 (.waits [])]⟩, [.cells 32 63, .cells 32 63, .rows 81]⟩
def zl99a : St → Option LR := L1 46 6 0 zq99a (.exit 2) zq99ae0 (fun s => T_ref_Release_l1 s.1 s.2.1 s.2.2.1 s.2.2.2.1 s.2.2.2.2.1 s.2.2.2.2.2.1 s.2.2.2.2.2.2.1 s.2.2.2.2.2.2.2.1 s.2.2.2.2.2.2.2.2)
theorem zk99a : PieceOk (zy99).env 0 (sub zc99 [0, 1, 1, 0, 0, 1, 1, 0, 0, 1, 0, 1, 1]) zl99a :=
  loop1 (A := za99a) zh99 Facts.mix trivial (k := loopB (sub zc99 [0, 1, 1, 0, 0, 1, 1, 0, 0, 1, 0, 1, 1])) (by kernel_rfl) rfl (by rintro ⟨x0, x1, x2, x3, x4, x5, x6, x7, x8⟩; kernel_rfl)
def T_ref_Release_l2 (x0 : Int) (x1 : Int) (x2 : Int) (x3 : Int) (x4 : Stake) (x5 : Stake) : Tr ((Int × Int × Int × Int × Stake × Stake) ⊕ (Stake × Stake)) :=
  (.ite (decide (x3 < x2))
    (.guard ((0 : Int) ≤ x3 ∧ x3 < ((Sl.len (.waits x5.Waits) : Nat) : Int))
    (.bind (sh_ref_Release_l1 x0 x1 x3 x2 x3 (⟨(x5.Waits.getD x3.toNat default).h0, (x5.Waits.getD x3.toNat default).h1⟩ : (A2 Int)) 0 x4 x5) fun v2 =>
    (.leaf (.inl (v2.1, v2.2.1, v2.2.2.1, IntKind.i64.wrap (v2.2.2.2.1 + 1), v2.2.2.2.2.1, v2.2.2.2.2.2)))))
    (.leaf (.inr (x4, (⟨x5.Bank, x5.Validators, x5.Shares, x5.Waits, x5.Next⟩ : Stake)))))
def sh_ref_Release_l2 (x0 : Int) (x1 : Int) (x2 : Int) (x3 : Int) (x4 : Stake) (x5 : Stake) : Option (Stake × Stake) := iter (fun s : Int × Int × Int × Int × Stake × Stake => (T_ref_Release_l2 s.1 s.2.1 s.2.2.1 s.2.2.2.1 s.2.2.2.2.1 s.2.2.2.2.2).run) (x0, x1, x2, x3, x4, x5)
def za99b : Ann := ⟨[([0, 1, 1, 0, 0, 1, 1, 0, 0, 1, 0, 1, 1], zl99a)], [], [], zv99, []⟩
def zq99b : EndD (Int × Int × Int × Int × Stake × Stake) := ⟨(LQ.map (LQ.seq (Par.q intP) (LQ.seq (Par.q intP) (LQ.skip (LQ.const (.ptr 0 0)) (LQ.skip (LQ.const (.ptr 1 0)) (LQ.skip (LQ.const (.own 2)) (LQ.seq (Par.q intP) (LQ.seq (Par.q intP) (LQ.seq (LP.q stakeL) (LQ.seq (LP.q bankL) (LQ.seq (LP.q validatorsL) (LQ.seq (LP.q (a4L (a6L (LP.one intP)))) (LQ.skip (LQ.const (.own 2)) (LQ.seq (Par.q intP) (Par.q waitsP)))))))))))))) (fun x : Int × Int × Int × Int × Stake × Bank × Validators × (A4 (A6 Int)) × Int × (List Wait) => ((x.1, x.2.1, x.2.2.1, x.2.2.2.1, x.2.2.2.2.1, (⟨x.2.2.2.2.2.1, x.2.2.2.2.2.2.1, x.2.2.2.2.2.2.2.1, x.2.2.2.2.2.2.2.2.2, x.2.2.2.2.2.2.2.2.1⟩ : Stake)) : Int × Int × Int × Int × Stake × Stake)) (fun y => (y.1, y.2.1, y.2.2.1, y.2.2.2.1, y.2.2.2.2.1, y.2.2.2.2.2.Bank, y.2.2.2.2.2.Validators, y.2.2.2.2.2.Shares, y.2.2.2.2.2.Next, y.2.2.2.2.2.Waits)) (fun _ => rfl)), ⟨[1, 2, 6, 7, 15, 16, 17], [.nilcell 7 61 81 (.waits []), .nilown 15 81 (.waits [])]⟩, [.cells 32 63, .cells 32 63, .rows 81]⟩
def zq99be0 : EndD (Stake × Stake) := ⟨(LQ.map (LQ.skip (LQ.const (.ptr 0 0)) (LQ.skip (LQ.const (.ptr 1 0)) (LQ.seq (LP.q stakeL) (LQ.seq (LP.q bankL) (LQ.seq (LP.q validatorsL) (LQ.seq (LP.q (a4L (a6L (LP.one intP)))) (LQ.skip (LQ.const (.own 2)) (LQ.seq (Par.q intP) (Par.q waitsP))))))))) (fun x : Stake × Bank × Validators × (A4 (A6 Int)) × Int × (List Wait) => ((x.1, (⟨x.2.1, x.2.2.1, x.2.2.2.1, x.2.2.2.2.2, x.2.2.2.2.1⟩ : Stake)) : Stake × Stake)) (fun y => (y.1, y.2.Bank, y.2.Validators, y.2.Shares, y.2.Next, y.2.Waits)) (fun _ => rfl)), ⟨[6, 7], [.nilcell 7 61 81 (.waits [])]⟩, [.cells 32 63, .cells 32 63, .rows 81]⟩
def zl99b : St → Option LR := L1 46 6 0 zq99b (.exit 0) zq99be0 (fun s => T_ref_Release_l2 s.1 s.2.1 s.2.2.1 s.2.2.2.1 s.2.2.2.2.1 s.2.2.2.2.2)
theorem zk99b : PieceOk (zy99).env 0 (sub zc99 [0, 1, 0, 1, 1]) zl99b :=
  loop1 (A := za99b) zh99 Facts.mix ⟨zk99a, trivial⟩ (k := loopB (sub zc99 [0, 1, 0, 1, 1])) (by kernel_rfl) rfl (by rintro ⟨x0, x1, x2, x3, x4, x5⟩; kernel_rfl)
def za99 : Ann := ⟨[([0, 1, 0, 1, 1], zl99b)], [], [], zv99, []⟩
def T_ref_Release (a0 : Stake) (a1 : Int) (a2 : Int) : Tr (Stake) :=
  (.bind (sh_ref_CopyStake_o a0) fun v1 =>
  (.bind (sh_ref_Release_l2 a1 a2 ((v1.Waits.length : Nat) : Int) 0 (default : Stake) v1) fun v3 =>
  (.leaf v3.2)))
def sh_ref_Release (a0 : Stake) (a1 : Int) (a2 : Int) : Option (Stake) := (T_ref_Release a0 a1 a2).run
def zr99 : LQ (Stake × Int × Int) := (LQ.seq (Par.q (Par.ofLP stakeL)) (LQ.seq (Par.q intP) (Par.q intP)))
def qr_ref_Release : LQ (Stake) := (Par.q (Par.ofLP stakeL))
def F_ref_Release : SpecT := specF 0 zr99 3 [] (fun s => T_ref_Release s.1 s.2.1 s.2.2) default qr_ref_Release 1 []
theorem ok_ref_Release : SpecOk Tryz.prog 84 (F_ref_Release).spec :=
  specF_ok (A := za99) zh99 Facts.mix Tryz.func84 (c := zc99) (by kernel_rfl) (Lc := 0) ⟨zk99b, trivial⟩ zr99 3 6 [] (fun s => T_ref_Release s.1 s.2.1 s.2.2) default qr_ref_Release 1 [] [.pubB 6] (by decide) (by kernel_rfl) (by rfl) (by decide) (by decide) (by rfl)
    (by rintro ⟨a0, a1, a2⟩; kernel_rfl)

noncomputable def zc100 : Code := Tryz.f51.body.getD .skip
def zv100 : List (List Nat) := [[1, 2, 4], [1, 2, 4, 13], [4, 5, 6], [1, 2, 4, 7], [1, 2, 4, 7], [1, 2, 4, 7, 8], [1, 4, 7, 8, 19, 20, 21], [1, 4, 7, 8, 19, 20, 21, 22], [1, 4, 7, 8, 10, 19, 20, 21], [1, 4, 7, 8, 10, 19, 20, 21, 40], [1, 4, 7, 8, 10, 19, 20, 21], [1, 4, 7, 8, 19, 20, 21], [1, 4, 7, 8, 19, 20, 21], [1, 4, 7, 8, 19, 20, 21], [4, 5, 6]]
noncomputable def zy100 : EnvT := ⟨Tryz.prog, lookT [(87, F_ref_GoodStake), (40, F_ref_CopyStake), (106, F_ref_Pay)]⟩
theorem zh100 : (zy100).Ok := lookT_ok ⟨ok_ref_GoodStake, ok_ref_CopyStake, ok_ref_Pay, trivial⟩
def T_ref_PayAll_l1 (x0 : Int) (x1 : (List Wait)) (x2 : Int) (x3 : Int) (x4 : Stake) (x5 : Stake) (x6 : (List Int)) : Tr ((Int × (List Wait) × Int × Int × Stake × Stake × (List Int)) ⊕ (Stake × Stake × (List Int))) :=
  (.ite (decide (x3 < x2))
    (.guard ((0 : Int) ≤ x3 ∧ x3 < ((Sl.len (.waits x1) : Nat) : Int))
    (.ite (((decide (((x1.getD x3.toNat default).Due) ≤ x0)) && (((x1.getD x3.toNat default).h0) == 0)) && (((x1.getD x3.toNat default).h1) == 0))
      (.bind (sh_ref_Pay x5.Bank ((x1.getD x3.toNat default).D) ((x1.getD x3.toNat default).Amount)) fun v3 =>
      (.guard ((Sl.len (.ints x6) + Sl.len (.ints [(x1.getD x3.toNat default).Number])) * 8 ≤ 140737488355328)
      (.leaf (.inl (x0, x1, x2, IntKind.i64.wrap (x3 + 1), x4, { (x5 : Stake) with Bank := v3.1 }, x6 ++ [(x1.getD x3.toNat default).Number])))))
      (.guard ((Sl.len (.waits x5.Waits) + Sl.len (.waits [(x1.getD x3.toNat default)])) * 64 ≤ 140737488355328)
      (.leaf (.inl (x0, x1, x2, IntKind.i64.wrap (x3 + 1), x4, { (x5 : Stake) with Waits := x5.Waits ++ [(x1.getD x3.toNat default)] }, x6))))))
    (.leaf (.inr (x4, x5, x6))))
def sh_ref_PayAll_l1 (x0 : Int) (x1 : (List Wait)) (x2 : Int) (x3 : Int) (x4 : Stake) (x5 : Stake) (x6 : (List Int)) : Option (Stake × Stake × (List Int)) := iter (fun s : Int × (List Wait) × Int × Int × Stake × Stake × (List Int) => (T_ref_PayAll_l1 s.1 s.2.1 s.2.2.1 s.2.2.2.1 s.2.2.2.2.1 s.2.2.2.2.2.1 s.2.2.2.2.2.2).run) (x0, x1, x2, x3, x4, x5, x6)
def za100a : Ann := ⟨[], [], [], zv100, []⟩
def zq100a : EndD (Int × (List Wait) × Int × Int × Stake × Stake × (List Int)) := ⟨(LQ.map (LQ.seq (Par.q intP) (LQ.skip (LQ.const (.ptr 0 0)) (LQ.skip (LQ.const (.ptr 1 0)) (LQ.skip (LQ.const (.own 2)) (LQ.seq (Par.q waitsP) (LQ.seq (Par.q intP) (LQ.seq (Par.q intP) (LQ.seq (LP.q bankL) (LQ.seq (LP.q validatorsL) (LQ.seq (LP.q (a4L (a6L (LP.one intP)))) (LQ.skip (LQ.const (.own 3)) (LQ.seq (Par.q intP) (LQ.seq (LP.q bankL) (LQ.seq (LP.q validatorsL) (LQ.seq (LP.q (a4L (a6L (LP.one intP)))) (LQ.skip (LQ.const (.own 4)) (LQ.seq (Par.q intP) (LQ.seq (Par.q intsP) (LQ.seq (Par.q waitsP) (Par.q waitsP)))))))))))))))))))) (fun x : Int × (List Wait) × Int × Int × Bank × Validators × (A4 (A6 Int)) × Int × Bank × Validators × (A4 (A6 Int)) × Int × (List Int) × (List Wait) × (List Wait) => ((x.1, x.2.1, x.2.2.1, x.2.2.2.1, (⟨x.2.2.2.2.1, x.2.2.2.2.2.1, x.2.2.2.2.2.2.1, x.2.2.2.2.2.2.2.2.2.2.2.2.2.1, x.2.2.2.2.2.2.2.1⟩ : Stake), (⟨x.2.2.2.2.2.2.2.2.1, x.2.2.2.2.2.2.2.2.2.1, x.2.2.2.2.2.2.2.2.2.2.1, x.2.2.2.2.2.2.2.2.2.2.2.2.2.2, x.2.2.2.2.2.2.2.2.2.2.2.1⟩ : Stake), x.2.2.2.2.2.2.2.2.2.2.2.2.1) : Int × (List Wait) × Int × Int × Stake × Stake × (List Int))) (fun y => (y.1, y.2.1, y.2.2.1, y.2.2.2.1, y.2.2.2.2.1.Bank, y.2.2.2.2.1.Validators, y.2.2.2.2.1.Shares, y.2.2.2.2.1.Next, y.2.2.2.2.2.1.Bank, y.2.2.2.2.2.1.Validators, y.2.2.2.2.2.1.Shares, y.2.2.2.2.2.1.Next, y.2.2.2.2.2.2, y.2.2.2.2.1.Waits, y.2.2.2.2.2.1.Waits)) (fun _ => rfl)), ⟨[1, 4, 7, 8, 19, 20, 21], [.nilcell 4 61 81 (.waits []), .nilcell 7 61 81 (.waits []), .nilown 8 3 (.ints []), .pub 19, .nilsl 19 (.waits [])]⟩, [.cells 32 63, .cells 32 63, .rows 3, .rows 81, .rows 81]⟩
def zq100ae0 : EndD (Stake × Stake × (List Int)) := ⟨(LQ.map (LQ.skip (LQ.const (.ptr 0 0)) (LQ.skip (LQ.const (.ptr 1 0)) (LQ.skip (LQ.const (.own 2)) (LQ.seq (LP.q bankL) (LQ.seq (LP.q validatorsL) (LQ.seq (LP.q (a4L (a6L (LP.one intP)))) (LQ.skip (LQ.const (.own 3)) (LQ.seq (Par.q intP) (LQ.seq (LP.q bankL) (LQ.seq (LP.q validatorsL) (LQ.seq (LP.q (a4L (a6L (LP.one intP)))) (LQ.skip (LQ.const (.own 4)) (LQ.seq (Par.q intP) (LQ.seq (Par.q intsP) (LQ.seq (Par.q waitsP) (Par.q waitsP)))))))))))))))) (fun x : Bank × Validators × (A4 (A6 Int)) × Int × Bank × Validators × (A4 (A6 Int)) × Int × (List Int) × (List Wait) × (List Wait) => (((⟨x.1, x.2.1, x.2.2.1, x.2.2.2.2.2.2.2.2.2.1, x.2.2.2.1⟩ : Stake), (⟨x.2.2.2.2.1, x.2.2.2.2.2.1, x.2.2.2.2.2.2.1, x.2.2.2.2.2.2.2.2.2.2, x.2.2.2.2.2.2.2.1⟩ : Stake), x.2.2.2.2.2.2.2.2.1) : Stake × Stake × (List Int))) (fun y => (y.1.Bank, y.1.Validators, y.1.Shares, y.1.Next, y.2.1.Bank, y.2.1.Validators, y.2.1.Shares, y.2.1.Next, y.2.2, y.1.Waits, y.2.1.Waits)) (fun _ => rfl)), ⟨[4, 7, 8], [.nilcell 4 61 81 (.waits []), .nilcell 7 61 81 (.waits []), .nilown 8 3 (.ints [])]⟩, [.cells 32 63, .cells 32 63, .rows 3, .rows 81, .rows 81]⟩
def zl100a : St → Option LR := L1 66 10 0 zq100a (.exit 0) zq100ae0 (fun s => T_ref_PayAll_l1 s.1 s.2.1 s.2.2.1 s.2.2.2.1 s.2.2.2.2.1 s.2.2.2.2.2.1 s.2.2.2.2.2.2)
theorem zk100a : PieceOk (zy100).env 0 (sub zc100 [0, 1, 0, 1, 1, 1, 1, 1]) zl100a :=
  loop1 (A := za100a) zh100 Facts.mix trivial (k := loopB (sub zc100 [0, 1, 0, 1, 1, 1, 1, 1])) (by kernel_rfl) rfl (by rintro ⟨x0, x1, x2, x3, x4, x5, x6⟩; kernel_rfl)
def za100 : Ann := ⟨[([0, 1, 0, 1, 1, 1, 1, 1], zl100a)], [], [], zv100, []⟩
def T_ref_PayAll (a0 : Stake) (a1 : Int) : Tr (Stake × (List Int) × Int) :=
  (.bind (sh_ref_GoodStake a0) fun v1 =>
  (.ite (!v1)
    (.leaf (a0, [], 2))
    (.bind (sh_ref_CopyStake a0) fun v2 =>
    (.bind (sh_ref_PayAll_l1 a1 a0.Waits ((a0.Waits.length : Nat) : Int) 0 (default : Stake) ({ (v2 : Stake) with Waits := [] }) []) fun v4 =>
    (.leaf (v4.2.1, v4.2.2, 0))))))
def sh_ref_PayAll (a0 : Stake) (a1 : Int) : Option (Stake × (List Int) × Int) := (T_ref_PayAll a0 a1).run
def zr100 : LQ (Stake × Int) := (LQ.seq (Par.q (Par.ofLP stakeL)) (Par.q intP))
def qr_ref_PayAll : LQ (Stake × (List Int) × Int) := (LQ.seq (Par.q (Par.ofLP stakeL)) (LQ.seq (Par.q intsP) (Par.q intP)))
def F_ref_PayAll : SpecT := specF 0 zr100 2 [] (fun s => T_ref_PayAll s.1 s.2) default qr_ref_PayAll 3 []
theorem ok_ref_PayAll : SpecOk Tryz.prog 51 (F_ref_PayAll).spec :=
  specF_ok (A := za100) zh100 Facts.mix Tryz.func51 (c := zc100) (by kernel_rfl) (Lc := 0) ⟨zk100a, trivial⟩ zr100 2 10 [] (fun s => T_ref_PayAll s.1 s.2) default qr_ref_PayAll 3 [] [.pubB 4, .pub 5] (by decide) (by kernel_rfl) (by rfl) (by decide) (by decide) (by rfl)
    (by rintro ⟨a0, a1⟩; kernel_rfl)

noncomputable def zc101 : Code := Tryz.f62.body.getD .skip
def zv101 : List (List Nat) := [[1, 2, 3, 4, 8], [1, 2, 3, 4, 8, 11], [1, 2, 3, 4, 8, 11, 24], [8, 9, 10], [1, 2, 3, 4, 8, 12, 13], [1, 2, 3, 4, 8, 12, 13, 38], [8, 9, 10], [1, 2, 3, 4, 8, 12, 14], [1, 2, 3, 4, 8, 12, 14, 15], [1, 2, 3, 4, 8, 12, 14, 15, 44, 45, 46], [1, 2, 3, 4, 8, 12, 14, 15, 44, 45, 46, 47], [1, 2, 3, 4, 8, 12, 14, 15, 16, 17, 44, 45, 46], [1, 2, 3, 4, 8, 12, 14, 15, 16, 17, 44, 45, 46, 60], [1, 2, 3, 4, 8, 12, 14, 15, 16, 17, 18, 44, 45, 46], [1, 2, 3, 4, 8, 12, 14, 15, 18, 44, 45, 46], [1, 2, 3, 4, 8, 12, 14, 15, 44, 45, 46], [1, 2, 3, 4, 8, 12, 14, 15, 44, 45, 46], [1, 8, 12, 14, 15], [1, 8, 12, 14, 15], [8, 12, 14, 15], [8, 9, 10]]
noncomputable def zy101 : EnvT := ⟨Tryz.prog, lookT [(112, F_ref_some), (113, F_ref_Part), (40, F_ref_CopyStake_o), (114, F_ref_Burn)]⟩
theorem zh101 : (zy101).Ok := lookT_ok ⟨ok_ref_some, ok_ref_Part, ok_ref_CopyStake_o, ok_ref_Burn, trivial⟩
def T_ref_Slash_l1 (x0 : Int) (x1 : Int) (x2 : Int) (x3 : Int) (x4 : Int) (x5 : (List Wait)) (x6 : Int) (x7 : Int) (x8 : Stake) (x9 : Stake) (x10 : Stake) : Tr ((Int × Int × Int × Int × Int × (List Wait) × Int × Int × Stake × Stake × Stake) ⊕ (Int × Int × Int × Stake × Stake × Stake)) :=
  (.ite (decide (x7 < x6))
    (.guard ((0 : Int) ≤ x7 ∧ x7 < ((Sl.len (.waits x5) : Nat) : Int))
    (.ite ((((x5.getD x7.toNat default).V) != x0) || (decide (((x5.getD x7.toNat default).Height) < x1)))
      (.leaf (.inl (x0, x1, x2, x3, x4, x5, x6, IntKind.i64.wrap (x7 + 1), x8, x9, x10)))
      (.bind (sh_ref_Part ((x5.getD x7.toNat default).Amount) x2) fun v4 =>
      (.guard ((0 : Int) ≤ x7 ∧ x7 < ((Sl.len (.waits x10.Waits) : Nat) : Int))
      (.leaf (.inl (x0, x1, x2, x3, IntKind.i64.wrap (x4 + v4.1), x5, x6, IntKind.i64.wrap (x7 + 1), x8, x9, { (x10 : Stake) with Waits := x10.Waits.set x7.toNat ({ ((x10.Waits.getD x7.toNat default) : Wait) with Amount := IntKind.i64.wrap (((x5.getD x7.toNat default).Amount) - v4.1) }) })))))))
    (.leaf (.inr (x0, x3, x4, x8, x9, x10))))
def sh_ref_Slash_l1 (x0 : Int) (x1 : Int) (x2 : Int) (x3 : Int) (x4 : Int) (x5 : (List Wait)) (x6 : Int) (x7 : Int) (x8 : Stake) (x9 : Stake) (x10 : Stake) : Option (Int × Int × Int × Stake × Stake × Stake) := iter (fun s : Int × Int × Int × Int × Int × (List Wait) × Int × Int × Stake × Stake × Stake => (T_ref_Slash_l1 s.1 s.2.1 s.2.2.1 s.2.2.2.1 s.2.2.2.2.1 s.2.2.2.2.2.1 s.2.2.2.2.2.2.1 s.2.2.2.2.2.2.2.1 s.2.2.2.2.2.2.2.2.1 s.2.2.2.2.2.2.2.2.2.1 s.2.2.2.2.2.2.2.2.2.2).run) (x0, x1, x2, x3, x4, x5, x6, x7, x8, x9, x10)
def za101a : Ann := ⟨[], [], [], zv101, []⟩
def zq101a : EndD (Int × Int × Int × Int × Int × (List Wait) × Int × Int × Stake × Stake × Stake) := ⟨(LQ.map (LQ.seq (Par.q intP) (LQ.seq (Par.q intP) (LQ.seq (Par.q intP) (LQ.skip (LQ.const (.ptr 0 0)) (LQ.skip (LQ.const (.ptr 1 0)) (LQ.seq (Par.q intP) (LQ.skip (LQ.const (.ptr 2 0)) (LQ.seq (Par.q intP) (LQ.seq (Par.q waitsP) (LQ.seq (Par.q intP) (LQ.seq (Par.q intP) (LQ.seq (LP.q stakeL) (LQ.seq (LP.q stakeL) (LQ.seq (LP.q bankL) (LQ.seq (LP.q validatorsL) (LQ.seq (LP.q (a4L (a6L (LP.one intP)))) (LQ.skip (LQ.const (.own 3)) (LQ.seq (Par.q intP) (Par.q waitsP))))))))))))))))))) (fun x : Int × Int × Int × Int × Int × (List Wait) × Int × Int × Stake × Stake × Bank × Validators × (A4 (A6 Int)) × Int × (List Wait) => ((x.1, x.2.1, x.2.2.1, x.2.2.2.1, x.2.2.2.2.1, x.2.2.2.2.2.1, x.2.2.2.2.2.2.1, x.2.2.2.2.2.2.2.1, x.2.2.2.2.2.2.2.2.1, x.2.2.2.2.2.2.2.2.2.1, (⟨x.2.2.2.2.2.2.2.2.2.2.1, x.2.2.2.2.2.2.2.2.2.2.2.1, x.2.2.2.2.2.2.2.2.2.2.2.2.1, x.2.2.2.2.2.2.2.2.2.2.2.2.2.2, x.2.2.2.2.2.2.2.2.2.2.2.2.2.1⟩ : Stake)) : Int × Int × Int × Int × Int × (List Wait) × Int × Int × Stake × Stake × Stake)) (fun y => (y.1, y.2.1, y.2.2.1, y.2.2.2.1, y.2.2.2.2.1, y.2.2.2.2.2.1, y.2.2.2.2.2.2.1, y.2.2.2.2.2.2.2.1, y.2.2.2.2.2.2.2.2.1, y.2.2.2.2.2.2.2.2.2.1, y.2.2.2.2.2.2.2.2.2.2.Bank, y.2.2.2.2.2.2.2.2.2.2.Validators, y.2.2.2.2.2.2.2.2.2.2.Shares, y.2.2.2.2.2.2.2.2.2.2.Next, y.2.2.2.2.2.2.2.2.2.2.Waits)) (fun _ => rfl)), ⟨[1, 2, 3, 4, 8, 12, 14, 15, 44, 45, 46], [.nilcell 14 61 81 (.waits []), .pub 44, .nilsl 44 (.waits [])]⟩, [.cells 32 63, .cells 32 63, .cells 32 63, .rows 81]⟩
def zq101ae0 : EndD (Int × Int × Int × Stake × Stake × Stake) := ⟨(LQ.map (LQ.seq (Par.q intP) (LQ.skip (LQ.const (.ptr 0 0)) (LQ.skip (LQ.const (.ptr 1 0)) (LQ.seq (Par.q intP) (LQ.skip (LQ.const (.ptr 2 0)) (LQ.seq (Par.q intP) (LQ.seq (LP.q stakeL) (LQ.seq (LP.q stakeL) (LQ.seq (LP.q bankL) (LQ.seq (LP.q validatorsL) (LQ.seq (LP.q (a4L (a6L (LP.one intP)))) (LQ.skip (LQ.const (.own 3)) (LQ.seq (Par.q intP) (Par.q waitsP)))))))))))))) (fun x : Int × Int × Int × Stake × Stake × Bank × Validators × (A4 (A6 Int)) × Int × (List Wait) => ((x.1, x.2.1, x.2.2.1, x.2.2.2.1, x.2.2.2.2.1, (⟨x.2.2.2.2.2.1, x.2.2.2.2.2.2.1, x.2.2.2.2.2.2.2.1, x.2.2.2.2.2.2.2.2.2, x.2.2.2.2.2.2.2.2.1⟩ : Stake)) : Int × Int × Int × Stake × Stake × Stake)) (fun y => (y.1, y.2.1, y.2.2.1, y.2.2.2.1, y.2.2.2.2.1, y.2.2.2.2.2.Bank, y.2.2.2.2.2.Validators, y.2.2.2.2.2.Shares, y.2.2.2.2.2.Next, y.2.2.2.2.2.Waits)) (fun _ => rfl)), ⟨[1, 4, 8, 12, 14, 15], [.nilcell 14 61 81 (.waits [])]⟩, [.cells 32 63, .cells 32 63, .cells 32 63, .rows 81]⟩
def zl101a : St → Option LR := L1 116 7 0 zq101a (.exit 0) zq101ae0 (fun s => T_ref_Slash_l1 s.1 s.2.1 s.2.2.1 s.2.2.2.1 s.2.2.2.2.1 s.2.2.2.2.2.1 s.2.2.2.2.2.2.1 s.2.2.2.2.2.2.2.1 s.2.2.2.2.2.2.2.2.1 s.2.2.2.2.2.2.2.2.2.1 s.2.2.2.2.2.2.2.2.2.2)
theorem zk101a : PieceOk (zy101).env 0 (sub zc101 [0, 1, 0, 1, 1, 1, 1, 1, 1]) zl101a :=
  loop1 (A := za101a) zh101 Facts.mix trivial (k := loopB (sub zc101 [0, 1, 0, 1, 1, 1, 1, 1, 1])) (by kernel_rfl) rfl (by rintro ⟨x0, x1, x2, x3, x4, x5, x6, x7, x8, x9, x10⟩; kernel_rfl)
def za101 : Ann := ⟨[([0, 1, 0, 1, 1, 1, 1, 1, 1], zl101a)], [], [], zv101, []⟩
def T_ref_Slash (a0 : Stake) (a1 : Int) (a2 : Int) (a3 : Int) : Tr (Stake × Int × Int) :=
  (.bind (sh_ref_some a0 0 a1) fun v1 =>
  (.ite (v1 != 0)
    (.leaf (a0, 0, v1))
    (.guard ((0 : Int) ≤ a1 ∧ (a1 : Int) < 6)
    (.bind (sh_ref_Part (a0.Validators.Tokens.get a1) a3) fun v2 =>
    (.ite (v2.2 != 0)
      (.leaf (a0, 0, v2.2))
      (.bind (sh_ref_CopyStake_o a0) fun v3 =>
      (.bind (sh_ref_Slash_l1 a1 a2 a3 v2.1 0 a0.Waits ((a0.Waits.length : Nat) : Int) 0 a0 (default : Stake) v3) fun v5 =>
      (.bind (sh_ref_Burn v5.2.2.2.1.Bank v5.2.1 v5.2.2.1) fun v6 =>
      (.guard ((0 : Int) ≤ v5.1 ∧ (v5.1 : Int) < 6)
      (.guard ((0 : Int) ≤ v5.1 ∧ (v5.1 : Int) < 6)
      (.guard ((0 : Int) ≤ v5.1 ∧ (v5.1 : Int) < 6)
      (.guard ((0 : Int) ≤ v5.1 ∧ (v5.1 : Int) < 6)
      (.leaf ({ (v5.2.2.2.2.2 : Stake) with Bank := v6.1, Validators := { (v5.2.2.2.2.2.Validators : Validators) with Tokens := (v5.2.2.2.2.2.Validators.Tokens.set v5.1 (IntKind.i64.wrap ((v5.2.2.2.2.2.Validators.Tokens.get v5.1) - v5.2.1))), Lost := (v5.2.2.2.2.2.Validators.Lost.set v5.1 (IntKind.i64.wrap ((v5.2.2.2.2.2.Validators.Lost.get v5.1) + (IntKind.i64.wrap (v5.2.1 + v5.2.2.1))))) } }, IntKind.i64.wrap (v5.2.1 + v5.2.2.1), 0))))))))))))))
def sh_ref_Slash (a0 : Stake) (a1 : Int) (a2 : Int) (a3 : Int) : Option (Stake × Int × Int) := (T_ref_Slash a0 a1 a2 a3).run
def zr101 : LQ (Stake × Int × Int × Int) := (LQ.seq (Par.q (Par.ofLP stakeL)) (LQ.seq (Par.q intP) (LQ.seq (Par.q intP) (Par.q intP))))
def qr_ref_Slash : LQ (Stake × Int × Int) := (LQ.seq (Par.q (Par.ofLP stakeL)) (LQ.seq (Par.q intP) (Par.q intP)))
def F_ref_Slash : SpecT := specF 0 zr101 4 [] (fun s => T_ref_Slash s.1 s.2.1 s.2.2.1 s.2.2.2) default qr_ref_Slash 3 []
theorem ok_ref_Slash : SpecOk Tryz.prog 62 (F_ref_Slash).spec :=
  specF_ok (A := za101) zh101 Facts.mix Tryz.func62 (c := zc101) (by kernel_rfl) (Lc := 0) ⟨zk101a, trivial⟩ zr101 4 7 [] (fun s => T_ref_Slash s.1 s.2.1 s.2.2.1 s.2.2.2) default qr_ref_Slash 3 [] [.pubB 8] (by decide) (by kernel_rfl) (by rfl) (by decide) (by decide) (by rfl)
    (by rintro ⟨a0, a1, a2, a3⟩; kernel_rfl)

noncomputable def zc102 : Code := Tryz.f63.body.getD .skip
def zv102 : List (List Nat) := [[1, 2, 3, 6], [1, 2, 3, 6, 8], [1, 2, 3, 6, 8, 15], [6, 7], [1, 2, 3, 6, 9], [1, 2, 3, 6, 9, 10], [1, 2, 3, 6, 9, 10, 24], [6, 7], [1, 2, 3, 6, 9, 10, 32], [6, 7], [1, 2, 3, 6, 10, 40], [6, 7], [1, 2, 6, 10], [6, 10], [6, 7]]
noncomputable def zy102 : EnvT := ⟨Tryz.prog, lookT [(112, F_ref_some), (40, F_ref_CopyStake)]⟩
theorem zh102 : (zy102).Ok := lookT_ok ⟨ok_ref_some, ok_ref_CopyStake, trivial⟩
def za102 : Ann := ⟨[], [], [], zv102, []⟩
def T_ref_Judge (a0 : Stake) (a1 : Int) (a2 : Int) : Tr (Stake × Int) :=
  (.bind (sh_ref_some a0 0 a1) fun v1 =>
  (.ite (v1 != 0)
    (.leaf (a0, v1))
    (.guard ((0 : Int) ≤ a1 ∧ (a1 : Int) < 6)
    (.bind (sh_ref_CopyStake a0) fun v2 =>
    (.ite ((a2 == 0) && (a0.Validators.Jailed.get a1))
      (.leaf (a0, 14))
      (.ite ((decide (a2 > 0)) && (a0.Validators.Dead.get a1))
        (.leaf (a0, 15))
        (.ite ((a2 == 1) && (!(a0.Validators.Jailed.get a1)))
          (.leaf (a0, 4))
          (.guard ((0 : Int) ≤ a1 ∧ (a1 : Int) < 6)
          (.guard ((0 : Int) ≤ a1 ∧ (a1 : Int) < 6)
          (.leaf ({ (v2 : Stake) with Validators := { (v2.Validators : Validators) with Jailed := (v2.Validators.Jailed.set a1 (a2 != 1)), Dead := (v2.Validators.Dead.set a1 (a2 == 2)) } }, 0)))))))))))
def sh_ref_Judge (a0 : Stake) (a1 : Int) (a2 : Int) : Option (Stake × Int) := (T_ref_Judge a0 a1 a2).run
def zr102 : LQ (Stake × Int × Int) := (LQ.seq (Par.q (Par.ofLP stakeL)) (LQ.seq (Par.q intP) (Par.q intP)))
def qr_ref_Judge : LQ (Stake × Int) := (LQ.seq (Par.q (Par.ofLP stakeL)) (Par.q intP))
def F_ref_Judge : SpecT := specF 0 zr102 3 [] (fun s => T_ref_Judge s.1 s.2.1 s.2.2) default qr_ref_Judge 2 []
theorem ok_ref_Judge : SpecOk Tryz.prog 63 (F_ref_Judge).spec :=
  specF_ok (A := za102) zh102 Facts.mix Tryz.func63 (c := zc102) (by kernel_rfl) (Lc := 0) trivial zr102 3 6 [] (fun s => T_ref_Judge s.1 s.2.1 s.2.2) default qr_ref_Judge 2 [] [.pubB 6] (by decide) (by kernel_rfl) (by rfl) (by decide) (by decide) (by rfl)
    (by rintro ⟨a0, a1, a2⟩; kernel_rfl)

noncomputable def zc103 : Code := Tryz.f52.body.getD .skip
def zv103 : List (List Nat) := [[1], [1, 3], [3, 11, 12], [3, 11, 12, 13], [3, 4, 5, 11, 12], [3, 4, 5, 11, 12, 18], [3, 11, 12], [3, 11, 12], [3, 6], [3, 6, 25], [3, 6, 25, 26], [3, 6, 7, 25], [3, 6, 7, 8, 25], [3, 6, 7, 8, 25, 28], [3, 6, 7, 8, 25, 28, 29], [3, 6, 7, 8, 9, 25, 28], [3, 6, 7, 8, 25, 28, 51], [3, 6, 7, 8, 25, 28], [3, 6, 7, 8, 25, 28], [3, 6, 7, 25, 62], [3, 6, 25], [3, 6, 25], [2]]
noncomputable def zy103 : EnvT := ⟨Tryz.prog, lookT []⟩
theorem zh103 : (zy103).Ok := lookT_ok trivial
def T_ref_Set_l1 (x0 : (A6 Validator)) (x1 : Int) (x2 : (A6 Int)) : Tr (((A6 Validator) × Int × (A6 Int)) ⊕ ((A6 Int))) :=
  (.ite (decide (x1 < 6))
    (.guard ((0 : Int) ≤ x1 ∧ (x1 : Int) < 6)
    (.ite (!(A6.get ⟨x0.x0.Jailed, x0.x1.Jailed, x0.x2.Jailed, x0.x3.Jailed, x0.x4.Jailed, x0.x5.Jailed⟩ x1))
      (.guard ((100 : Int) ≠ 0)
      (.guard ((0 : Int) ≤ x1 ∧ (x1 : Int) < 6)
      (.leaf (.inl (x0, IntKind.i64.wrap (x1 + 1), (x2.set x1 (IntKind.i64.wrap (Int.tdiv (A6.get ⟨x0.x0.Tokens, x0.x1.Tokens, x0.x2.Tokens, x0.x3.Tokens, x0.x4.Tokens, x0.x5.Tokens⟩ x1) 100))))))))
      (.leaf (.inl (x0, IntKind.i64.wrap (x1 + 1), x2)))))
    (.leaf (.inr x2)))
def sh_ref_Set_l1 (x0 : (A6 Validator)) (x1 : Int) (x2 : (A6 Int)) : Option ((A6 Int)) := iter (fun s : (A6 Validator) × Int × (A6 Int) => (T_ref_Set_l1 s.1 s.2.1 s.2.2).run) (x0, x1, x2)
def za103a : Ann := ⟨[], [], [], zv103, []⟩
def zq103a : EndD ((A6 Validator) × Int × (A6 Int)) := ⟨(LQ.skip (LQ.const (.ptr 0 0)) (LQ.seq (Par.q (Par.ofLP (a6L validatorL))) (LQ.seq (Par.q intP) (LP.q (a6L (LP.one intP)))))), ⟨[3, 11, 12], []⟩, [.cells 28 6]⟩
def zq103ae0 : EndD ((A6 Int)) := ⟨(LQ.skip (LQ.const (.ptr 0 0)) (LP.q (a6L (LP.one intP)))), ⟨[3], []⟩, [.cells 28 6]⟩
def zl103a : St → Option LR := L1 73 6 0 zq103a (.exit 0) zq103ae0 (fun s => T_ref_Set_l1 s.1 s.2.1 s.2.2)
theorem zk103a : PieceOk (zy103).env 0 (sub zc103 [0, 1, 0, 1, 1]) zl103a :=
  loop1 (A := za103a) zh103 Facts.mix trivial (k := loopB (sub zc103 [0, 1, 0, 1, 1])) (by kernel_rfl) rfl (by rintro ⟨x0, x1, x2⟩; kernel_rfl)
def T_ref_Set_l2 (x0 : Int) (x1 : Int) (x2 : Int) (x3 : Int) (x4 : (A6 Int)) (x5 : (List Power)) : Tr ((Int × Int × Int × Int × (A6 Int) × (List Power)) ⊕ (Int × Int × Int × (A6 Int) × (List Power))) :=
  (.ite (decide (x3 < 6))
    (.guard ((0 : Int) ≤ x3 ∧ (x3 : Int) < 6)
    (.guard ((0 : Int) ≤ x0 ∧ (x0 : Int) < 6)
    (.guard (((decide ((x4.get x3) > (x4.get x0))) = false → ((0 : Int) ≤ x3 ∧ (x3 : Int) < 6) ∧ True))
    (.guard (((decide ((x4.get x3) > (x4.get x0))) = false → ((0 : Int) ≤ x0 ∧ (x0 : Int) < 6) ∧ True))
    (.ite ((decide ((x4.get x3) > (x4.get x0))) || (((x4.get x3) == (x4.get x0)) && (decide (x3 < x0))))
      (.leaf (.inl (x0, IntKind.i64.wrap (x1 + 1), x2, IntKind.i64.wrap (x3 + 1), x4, x5)))
      (.leaf (.inl (x0, x1, x2, IntKind.i64.wrap (x3 + 1), x4, x5))))))))
    (.leaf (.inr (x0, x1, x2, x4, x5))))
def sh_ref_Set_l2 (x0 : Int) (x1 : Int) (x2 : Int) (x3 : Int) (x4 : (A6 Int)) (x5 : (List Power)) : Option (Int × Int × Int × (A6 Int) × (List Power)) := iter (fun s : Int × Int × Int × Int × (A6 Int) × (List Power) => (T_ref_Set_l2 s.1 s.2.1 s.2.2.1 s.2.2.2.1 s.2.2.2.2.1 s.2.2.2.2.2).run) (x0, x1, x2, x3, x4, x5)
def za103b : Ann := ⟨[], [], [], zv103, []⟩
def zq103b : EndD (Int × Int × Int × Int × (A6 Int) × (List Power)) := ⟨(LQ.skip (LQ.const (.ptr 0 0)) (LQ.skip (LQ.const (.own 1)) (LQ.seq (Par.q intP) (LQ.seq (Par.q intP) (LQ.seq (Par.q intP) (LQ.seq (Par.q intP) (LQ.seq (LP.q (a6L (LP.one intP))) (Par.q powersP)))))))), ⟨[3, 6, 7, 8, 25, 28], [.nilown 6 116 (.powers [])]⟩, [.cells 28 6, .rows 116]⟩
def zq103be0 : EndD (Int × Int × Int × (A6 Int) × (List Power)) := ⟨(LQ.skip (LQ.const (.ptr 0 0)) (LQ.skip (LQ.const (.own 1)) (LQ.seq (Par.q intP) (LQ.seq (Par.q intP) (LQ.seq (Par.q intP) (LQ.seq (LP.q (a6L (LP.one intP))) (Par.q powersP))))))), ⟨[3, 6, 7, 8, 25], [.nilown 6 116 (.powers [])]⟩, [.cells 28 6, .rows 116]⟩
def zl103b : St → Option LR := L1 73 6 0 zq103b (.exit 4) zq103be0 (fun s => T_ref_Set_l2 s.1 s.2.1 s.2.2.1 s.2.2.2.1 s.2.2.2.2.1 s.2.2.2.2.2)
theorem zk103b : PieceOk (zy103).env 0 (sub zc103 [0, 1, 0, 1, 1, 0, 0, 1, 1, 0, 0, 1, 0, 1, 1, 1, 1]) zl103b :=
  loop1 (A := za103b) zh103 Facts.mix trivial (k := loopB (sub zc103 [0, 1, 0, 1, 1, 0, 0, 1, 1, 0, 0, 1, 0, 1, 1, 1, 1])) (by kernel_rfl) rfl (by rintro ⟨x0, x1, x2, x3, x4, x5⟩; kernel_rfl)
def T_ref_Set_l3 (x0 : Int) (x1 : (A6 Int)) (x2 : (List Power)) : Tr ((Int × (A6 Int) × (List Power)) ⊕ ((List Power))) :=
  (.ite (decide (x0 < 6))
    (.bind (sh_ref_Set_l2 x0 0 x0 0 x1 x2) fun v2 =>
    (.guard ((0 : Int) ≤ v2.1 ∧ (v2.1 : Int) < 6)
    (.ite ((decide ((v2.2.2.2.1.get v2.1) > 0)) && (decide (v2.2.1 < 4)))
      (.guard ((0 : Int) ≤ v2.1 ∧ (v2.1 : Int) < 6)
      (.guard ((Sl.len (.powers v2.2.2.2.2) + Sl.len (.powers [(⟨v2.1, v2.2.2.2.1.get v2.1⟩ : Power)])) * 16 ≤ 140737488355328)
      (.leaf (.inl (IntKind.i64.wrap (v2.2.2.1 + 1), v2.2.2.2.1, v2.2.2.2.2 ++ [(⟨v2.1, v2.2.2.2.1.get v2.1⟩ : Power)])))))
      (.leaf (.inl (IntKind.i64.wrap (v2.2.2.1 + 1), v2.2.2.2.1, v2.2.2.2.2))))))
    (.leaf (.inr x2)))
def sh_ref_Set_l3 (x0 : Int) (x1 : (A6 Int)) (x2 : (List Power)) : Option ((List Power)) := iter (fun s : Int × (A6 Int) × (List Power) => (T_ref_Set_l3 s.1 s.2.1 s.2.2).run) (x0, x1, x2)
def za103c : Ann := ⟨[([0, 1, 0, 1, 1, 0, 0, 1, 1, 0, 0, 1, 0, 1, 1, 1, 1], zl103b)], [], [], zv103, []⟩
def zq103c : EndD (Int × (A6 Int) × (List Power)) := ⟨(LQ.skip (LQ.const (.ptr 0 0)) (LQ.skip (LQ.const (.own 1)) (LQ.seq (Par.q intP) (LQ.seq (LP.q (a6L (LP.one intP))) (Par.q powersP))))), ⟨[3, 6, 25], [.nilown 6 116 (.powers [])]⟩, [.cells 28 6, .rows 116]⟩
def zq103ce0 : EndD ((List Power)) := ⟨(LQ.skip (LQ.const (.own 0)) (Par.q powersP)), ⟨[6], [.nilown 6 116 (.powers [])]⟩, [.rows 116]⟩
def zl103c : St → Option LR := L1 73 6 0 zq103c (.exit 2) zq103ce0 (fun s => T_ref_Set_l3 s.1 s.2.1 s.2.2)
theorem zk103c : PieceOk (zy103).env 0 (sub zc103 [0, 1, 0, 1, 1, 1, 1]) zl103c :=
  loop1 (A := za103c) zh103 Facts.mix ⟨zk103b, trivial⟩ (k := loopB (sub zc103 [0, 1, 0, 1, 1, 1, 1])) (by kernel_rfl) rfl (by rintro ⟨x0, x1, x2⟩; kernel_rfl)
def za103 : Ann := ⟨[([0, 1, 0, 1, 1], zl103a), ([0, 1, 0, 1, 1, 1, 1], zl103c)], [], [], zv103, []⟩
def T_ref_Set (a0 : Stake) : Tr ((List Power)) :=
  (.bind (sh_ref_Set_l1 (⟨(⟨a0.Validators.Tokens.x0, a0.Validators.Shares.x0, a0.Validators.Lost.x0, a0.Validators.Jailed.x0, a0.Validators.Dead.x0⟩ : Validator), (⟨a0.Validators.Tokens.x1, a0.Validators.Shares.x1, a0.Validators.Lost.x1, a0.Validators.Jailed.x1, a0.Validators.Dead.x1⟩ : Validator), (⟨a0.Validators.Tokens.x2, a0.Validators.Shares.x2, a0.Validators.Lost.x2, a0.Validators.Jailed.x2, a0.Validators.Dead.x2⟩ : Validator), (⟨a0.Validators.Tokens.x3, a0.Validators.Shares.x3, a0.Validators.Lost.x3, a0.Validators.Jailed.x3, a0.Validators.Dead.x3⟩ : Validator), (⟨a0.Validators.Tokens.x4, a0.Validators.Shares.x4, a0.Validators.Lost.x4, a0.Validators.Jailed.x4, a0.Validators.Dead.x4⟩ : Validator), (⟨a0.Validators.Tokens.x5, a0.Validators.Shares.x5, a0.Validators.Lost.x5, a0.Validators.Jailed.x5, a0.Validators.Dead.x5⟩ : Validator)⟩ : (A6 Validator)) 0 (⟨0, 0, 0, 0, 0, 0⟩ : (A6 Int))) fun v1 =>
  (.bind (sh_ref_Set_l3 0 v1 []) fun v3 =>
  (.leaf v3)))
def sh_ref_Set (a0 : Stake) : Option ((List Power)) := (T_ref_Set a0).run
def zr103 : LQ (Stake) := (Par.q (Par.ofLP stakeL))
def qr_ref_Set : LQ ((List Power)) := (Par.q powersP)
def F_ref_Set : SpecT := specF 0 zr103 1 [] (fun s => T_ref_Set s) default qr_ref_Set 1 []
theorem ok_ref_Set : SpecOk Tryz.prog 52 (F_ref_Set).spec :=
  specF_ok (A := za103) zh103 Facts.mix Tryz.func52 (c := zc103) (by kernel_rfl) (Lc := 0) ⟨zk103a, zk103c, trivial⟩ zr103 1 6 [] (fun s => T_ref_Set s) default qr_ref_Set 1 [] [.pub 2] (by decide) (by kernel_rfl) (by rfl) (by decide) (by decide) (by rfl)
    (by rintro a0; kernel_rfl)

end
end Go.Proofs.YtknbejjfejdppaaGreat.Ab
