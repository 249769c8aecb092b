/-
  The functions, each by its tree.
-/
import Derived.Test.YtknbejjfejdppaaGreatFacts
import Derived.Test.YtknbejjfejdppaaGreatAbStructs
import Derived.Test.YtknbejjfejdppaaGreatAbFun
import Derived.Test.YtknbejjfejdppaaGreatFRatio
import Derived.Test.YtknbejjfejdppaaGreatFBank
import Derived.Test.YtknbejjfejdppaaGreatFRefA
namespace Go.Proofs.YtknbejjfejdppaaGreat.Ab
open Go Go.RowKit
set_option maxRecDepth 100000
set_option linter.unusedVariables false
set_option linter.unusedSimpArgs false
noncomputable section

noncomputable def zc99 : Code := Tryz.f84.body.getD .skip
def zv99 : List (List Nat) := [[1, 2, 3, 6], [1, 2, 6, 7], [1, 2, 6, 7, 15, 16, 17], [1, 2, 6, 7, 15, 16, 17, 18], [1, 2, 6, 7, 8, 9, 15, 16, 17], [1, 2, 6, 7, 8, 15, 16, 17, 23, 24], [1, 2, 6, 7, 8, 15, 16, 17, 23, 24, 25], [1, 2, 6, 7, 8, 10, 11, 15, 16, 17, 23, 24], [1, 2, 6, 7, 8, 10, 15, 16, 17, 23, 24, 35], [1, 2, 6, 7, 8, 15, 16, 17, 23, 24], [1, 2, 6, 7, 8, 15, 16, 17, 23, 24], [1, 2, 6, 7, 15, 16, 17], [6]]
noncomputable def zy99 : EnvT := ⟨Tryz.prog, lookT [(40, F_ref_CopyStake_o)]⟩
theorem zh99 : (zy99).Ok := lookT_ok ⟨ok_ref_CopyStake_o, trivial⟩
def T_ref_Release_l1 (x0 : Int) (x1 : Int) (x2 : Int) (x3 : Int) (x4 : Int) (x5 : (A2 Int)) (x6 : Int) (x7 : Stake) (x8 : Stake) : Tr ((Int × Int × Int × Int × Int × (A2 Int) × Int × Stake × Stake) ⊕ (Int × Int × Int × Int × Stake × Stake)) :=
  (.ite (decide (x6 < 2))
    (.guard ((0 : Int) ≤ x6 ∧ (x6 : Int) < 2)
    (.ite ((x6 == x0) && (decide ((x5.get x6) ≤ x1)))
      (.guard ((0 : Int) ≤ x2 ∧ x2 < ((Sl.len (.waits x8.Waits) : Nat) : Int))
      (.guard ((0 : Int) ≤ x6 ∧ (x6 : Int) < 2)
      (.leaf (.inl (x0, x1, x2, x3, x4, x5, IntKind.i64.wrap (x6 + 1), x7, { (x8 : Stake) with Waits := x8.Waits.set x2.toNat ({ ((x8.Waits.getD x2.toNat default) : Wait) with h0 := if x6 = 0 then 0 else (x8.Waits.getD x2.toNat default).h0, h1 := if x6 = 1 then 0 else (x8.Waits.getD x2.toNat default).h1 }) })))))
      (.leaf (.inl (x0, x1, x2, x3, x4, x5, IntKind.i64.wrap (x6 + 1), x7, x8)))))
    (.leaf (.inr (x0, x1, x3, x4, x7, x8))))
def sh_ref_Release_l1 (x0 : Int) (x1 : Int) (x2 : Int) (x3 : Int) (x4 : Int) (x5 : (A2 Int)) (x6 : Int) (x7 : Stake) (x8 : Stake) : Option (Int × Int × Int × Int × Stake × Stake) := iter (fun s : Int × Int × Int × Int × Int × (A2 Int) × Int × Stake × Stake => (T_ref_Release_l1 s.1 s.2.1 s.2.2.1 s.2.2.2.1 s.2.2.2.2.1 s.2.2.2.2.2.1 s.2.2.2.2.2.2.1 s.2.2.2.2.2.2.2.1 s.2.2.2.2.2.2.2.2).run) (x0, x1, x2, x3, x4, x5, x6, x7, x8)
def za99a : Ann := ⟨[], [], [], zv99, []⟩
def zq99a : EndD (Int × Int × Int × Int × Int × (A2 Int) × Int × Stake × Stake) := ⟨(LQ.map (LQ.seq (Par.q intP) (LQ.seq (Par.q intP) (LQ.skip (LQ.const (.ptr 0 0)) (LQ.skip (LQ.const (.ptr 1 0)) (LQ.seq (Par.q intP) (LQ.skip (LQ.const (.own 2)) (LQ.seq (Par.q intP) (LQ.seq (Par.q intP) (LQ.seq (Par.q (Par.ofLP (a2L (LP.one intP)))) (LQ.seq (Par.q intP) (LQ.seq (LP.q stakeL) (LQ.seq (LP.q bankL) (LQ.seq (LP.q validatorsL) (LQ.seq (LP.q (a4L (a6L (LP.one intP)))) (LQ.skip (LQ.const (.own 2)) (LQ.seq (Par.q intP) (Par.q waitsP))))))))))))))))) (fun x : Int × Int × Int × Int × Int × (A2 Int) × Int × Stake × Bank × Validators × (A4 (A6 Int)) × Int × (List Wait) => ((x.1, x.2.1, x.2.2.1, x.2.2.2.1, x.2.2.2.2.1, x.2.2.2.2.2.1, x.2.2.2.2.2.2.1, x.2.2.2.2.2.2.2.1, (⟨x.2.2.2.2.2.2.2.2.1, x.2.2.2.2.2.2.2.2.2.1, x.2.2.2.2.2.2.2.2.2.2.1, x.2.2.2.2.2.2.2.2.2.2.2.2, x.2.2.2.2.2.2.2.2.2.2.2.1⟩ : Stake)) : Int × Int × Int × Int × Int × (A2 Int) × Int × Stake × Stake)) (fun y => (y.1, y.2.1, y.2.2.1, y.2.2.2.1, y.2.2.2.2.1, y.2.2.2.2.2.1, y.2.2.2.2.2.2.1, y.2.2.2.2.2.2.2.1, y.2.2.2.2.2.2.2.2.Bank, y.2.2.2.2.2.2.2.2.Validators, y.2.2.2.2.2.2.2.2.Shares, y.2.2.2.2.2.2.2.2.Next, y.2.2.2.2.2.2.2.2.Waits)) (fun _ => rfl)), ⟨[1, 2, 6, 7, 8, 15, 16, 17, 23, 24], [.nilcell 7 61 81 (.waits []), .nilown 15 81 (.waits [])]⟩, [.cells 32 63, .cells 32 63, .rows 81]⟩
def zq99ae0 : EndD (Int × Int × Int × Int × Stake × Stake) := ⟨(LQ.map (LQ.seq (Par.q intP) (LQ.seq (Par.q intP) (LQ.skip (LQ.const (.ptr 0 0)) (LQ.skip (LQ.const (.ptr 1 0)) (LQ.skip (LQ.const (.own 2)) (LQ.seq (Par.q intP) (LQ.seq (Par.q intP) (LQ.seq (LP.q stakeL) (LQ.seq (LP.q bankL) (LQ.seq (LP.q validatorsL) (LQ.seq (LP.q (a4L (a6L (LP.one intP)))) (LQ.skip (LQ.const (.own 2)) (LQ.seq (Par.q intP) (Par.q waitsP)))))))))))))) (fun x : Int × Int × Int × Int × Stake × Bank × Validators × (A4 (A6 Int)) × Int × (List Wait) => ((x.1, x.2.1, x.2.2.1, x.2.2.2.1, x.2.2.2.2.1, (⟨x.2.2.2.2.2.1, x.2.2.2.2.2.2.1, x.2.2.2.2.2.2.2.1, x.2.2.2.2.2.2.2.2.2, x.2.2.2.2.2.2.2.2.1⟩ : Stake)) : Int × Int × Int × Int × Stake × Stake)) (fun y => (y.1, y.2.1, y.2.2.1, y.2.2.2.1, y.2.2.2.2.1, y.2.2.2.2.2.Bank, y.2.2.2.2.2.Validators, y.2.2.2.2.2.Shares, y.2.2.2.2.2.Next, y.2.2.2.2.2.Waits)) (fun _ => rfl)), ⟨[1, 2, 6, 7, 15, 16, 17], [.nilcell 7 61 81 (.waits []), .nilown 15 81 (.waits [])]⟩, [.cells 32 63, .cells 32 63, .rows 81]⟩
def zl99a : St → Option LR := L1 46 6 0 zq99a (.exit 2) zq99ae0 (fun s => T_ref_Release_l1 s.1 s.2.1 s.2.2.1 s.2.2.2.1 s.2.2.2.2.1 s.2.2.2.2.2.1 s.2.2.2.2.2.2.1 s.2.2.2.2.2.2.2.1 s.2.2.2.2.2.2.2.2)
theorem zk99a : PieceOk (zy99).env 0 (sub zc99 [0, 1, 1, 0, 0, 1, 1, 0, 0, 1, 0, 1, 1]) zl99a :=
  loop1 (A := za99a) zh99 Facts.mix trivial (k := loopB (sub zc99 [0, 1, 1, 0, 0, 1, 1, 0, 0, 1, 0, 1, 1])) (by kernel_rfl) rfl (by rintro ⟨x0, x1, x2, x3, x4, x5, x6, x7, x8⟩; kernel_rfl)
def T_ref_Release_l2 (x0 : Int) (x1 : Int) (x2 : Int) (x3 : Int) (x4 : Stake) (x5 : Stake) : Tr ((Int × Int × Int × Int × Stake × Stake) ⊕ (Stake × Stake)) :=
  (.ite (decide (x3 < x2))
    (.guard ((0 : Int) ≤ x3 ∧ x3 < ((Sl.len (.waits x5.Waits) : Nat) : Int))
    (.bind (sh_ref_Release_l1 x0 x1 x3 x2 x3 (⟨(x5.Waits.getD x3.toNat default).h0, (x5.Waits.getD x3.toNat default).h1⟩ : (A2 Int)) 0 x4 x5) fun v2 =>
    (.leaf (.inl (v2.1, v2.2.1, v2.2.2.1, IntKind.i64.wrap (v2.2.2.2.1 + 1), v2.2.2.2.2.1, v2.2.2.2.2.2)))))
    (.leaf (.inr (x4, (⟨x5.Bank, x5.Validators, x5.Shares, x5.Waits, x5.Next⟩ : Stake)))))
def sh_ref_Release_l2 (x0 : Int) (x1 : Int) (x2 : Int) (x3 : Int) (x4 : Stake) (x5 : Stake) : Option (Stake × Stake) := iter (fun s : Int × Int × Int × Int × Stake × Stake => (T_ref_Release_l2 s.1 s.2.1 s.2.2.1 s.2.2.2.1 s.2.2.2.2.1 s.2.2.2.2.2).run) (x0, x1, x2, x3, x4, x5)
def za99b : Ann := ⟨[([0, 1, 1, 0, 0, 1, 1, 0, 0, 1, 0, 1, 1], zl99a)], [], [], zv99, []⟩
def zq99b : EndD (Int × Int × Int × Int × Stake × Stake) := ⟨(LQ.map (LQ.seq (Par.q intP) (LQ.seq (Par.q intP) (LQ.skip (LQ.const (.ptr 0 0)) (LQ.skip (LQ.const (.ptr 1 0)) (LQ.skip (LQ.const (.own 2)) (LQ.seq (Par.q intP) (LQ.seq (Par.q intP) (LQ.seq (LP.q stakeL) (LQ.seq (LP.q bankL) (LQ.seq (LP.q validatorsL) (LQ.seq (LP.q (a4L (a6L (LP.one intP)))) (LQ.skip (LQ.const (.own 2)) (LQ.seq (Par.q intP) (Par.q waitsP)))))))))))))) (fun x : Int × Int × Int × Int × Stake × Bank × Validators × (A4 (A6 Int)) × Int × (List Wait) => ((x.1, x.2.1, x.2.2.1, x.2.2.2.1, x.2.2.2.2.1, (⟨x.2.2.2.2.2.1, x.2.2.2.2.2.2.1, x.2.2.2.2.2.2.2.1, x.2.2.2.2.2.2.2.2.2, x.2.2.2.2.2.2.2.2.1⟩ : Stake)) : Int × Int × Int × Int × Stake × Stake)) (fun y => (y.1, y.2.1, y.2.2.1, y.2.2.2.1, y.2.2.2.2.1, y.2.2.2.2.2.Bank, y.2.2.2.2.2.Validators, y.2.2.2.2.2.Shares, y.2.2.2.2.2.Next, y.2.2.2.2.2.Waits)) (fun _ => rfl)), ⟨[1, 2, 6, 7, 15, 16, 17], [.nilcell 7 61 81 (.waits []), .nilown 15 81 (.waits [])]⟩, [.cells 32 63, .cells 32 63, .rows 81]⟩
def zq99be0 : EndD (Stake × Stake) := ⟨(LQ.map (LQ.skip (LQ.const (.ptr 0 0)) (LQ.skip (LQ.const (.ptr 1 0)) (LQ.seq (LP.q stakeL) (LQ.seq (LP.q bankL) (LQ.seq (LP.q validatorsL) (LQ.seq (LP.q (a4L (a6L (LP.one intP)))) (LQ.skip (LQ.const (.own 2)) (LQ.seq (Par.q intP) (Par.q waitsP))))))))) (fun x : Stake × Bank × Validators × (A4 (A6 Int)) × Int × (List Wait) => ((x.1, (⟨x.2.1, x.2.2.1, x.2.2.2.1, x.2.2.2.2.2, x.2.2.2.2.1⟩ : Stake)) : Stake × Stake)) (fun y => (y.1, y.2.Bank, y.2.Validators, y.2.Shares, y.2.Next, y.2.Waits)) (fun _ => rfl)), ⟨[6, 7], [.nilcell 7 61 81 (.waits [])]⟩, [.cells 32 63, .cells 32 63, .rows 81]⟩
def zl99b : St → Option LR := L1 46 6 0 zq99b (.exit 0) zq99be0 (fun s => T_ref_Release_l2 s.1 s.2.1 s.2.2.1 s.2.2.2.1 s.2.2.2.2.1 s.2.2.2.2.2)
theorem zk99b : PieceOk (zy99).env 0 (sub zc99 [0, 1, 0, 1, 1]) zl99b :=
  loop1 (A := za99b) zh99 Facts.mix ⟨zk99a, trivial⟩ (k := loopB (sub zc99 [0, 1, 0, 1, 1])) (by kernel_rfl) rfl (by rintro ⟨x0, x1, x2, x3, x4, x5⟩; kernel_rfl)
def za99 : Ann := ⟨[([0, 1, 0, 1, 1], zl99b)], [], [], zv99, []⟩
def T_ref_Release (a0 : Stake) (a1 : Int) (a2 : Int) : Tr (Stake) :=
  (.bind (sh_ref_CopyStake_o a0) fun v1 =>
  (.bind (sh_ref_Release_l2 a1 a2 ((v1.Waits.length : Nat) : Int) 0 (default : Stake) v1) fun v3 =>
  (.leaf v3.2)))
def sh_ref_Release (a0 : Stake) (a1 : Int) (a2 : Int) : Option (Stake) := (T_ref_Release a0 a1 a2).run
def zr99 : LQ (Stake × Int × Int) := (LQ.seq (Par.q (Par.ofLP stakeL)) (LQ.seq (Par.q intP) (Par.q intP)))
def qr_ref_Release : LQ (Stake) := (Par.q (Par.ofLP stakeL))
def F_ref_Release : SpecT := specF 0 zr99 3 [] (fun s => T_ref_Release s.1 s.2.1 s.2.2) default qr_ref_Release 1 []
theorem ok_ref_Release : SpecOk Tryz.prog 84 (F_ref_Release).spec :=
  specF_ok (A := za99) zh99 Facts.mix Tryz.func84 (c := zc99) (by kernel_rfl) (Lc := 0) ⟨zk99b, trivial⟩ zr99 3 6 [] (fun s => T_ref_Release s.1 s.2.1 s.2.2) default qr_ref_Release 1 [] [.pubB 6] (by decide) (by kernel_rfl) (by rfl) (by decide) (by decide) (by rfl)
    (by rintro ⟨a0, a1, a2⟩; kernel_rfl)

end
end Go.Proofs.YtknbejjfejdppaaGreat.Ab
