/-
  The functions, each by its tree.
-/
import Derived.Test.YtknbejjfejdppaaGreatFacts
import Derived.Test.YtknbejjfejdppaaGreatAbStructs
import Derived.Test.YtknbejjfejdppaaGreatAbFun
import Derived.Test.YtknbejjfejdppaaGreatFRatio
import Derived.Test.YtknbejjfejdppaaGreatFBank
import Derived.Test.YtknbejjfejdppaaGreatFRefA
namespace Go.Proofs.YtknbejjfejdppaaGreat.Ab
open Go Go.RowKit
set_option maxRecDepth 100000
set_option linter.unusedVariables false
set_option linter.unusedSimpArgs false
noncomputable section

noncomputable def zc101 : Code := Tryz.f62.body.getD .skip
def zv101 : List (List Nat) := [[1, 2, 3, 4, 8], [1, 2, 3, 4, 8, 11], [1, 2, 3, 4, 8, 11, 24], [8, 9, 10], [1, 2, 3, 4, 8, 12, 13], [1, 2, 3, 4, 8, 12, 13, 38], [8, 9, 10], [1, 2, 3, 4, 8, 12, 14], [1, 2, 3, 4, 8, 12, 14, 15], [1, 2, 3, 4, 8, 12, 14, 15, 44, 45, 46], [1, 2, 3, 4, 8, 12, 14, 15, 44, 45, 46, 47], [1, 2, 3, 4, 8, 12, 14, 15, 16, 17, 44, 45, 46], [1, 2, 3, 4, 8, 12, 14, 15, 16, 17, 44, 45, 46, 60], [1, 2, 3, 4, 8, 12, 14, 15, 16, 17, 18, 44, 45, 46], [1, 2, 3, 4, 8, 12, 14, 15, 18, 44, 45, 46], [1, 2, 3, 4, 8, 12, 14, 15, 44, 45, 46], [1, 2, 3, 4, 8, 12, 14, 15, 44, 45, 46], [1, 8, 12, 14, 15], [1, 8, 12, 14, 15], [8, 12, 14, 15], [8, 9, 10]]
noncomputable def zy101 : EnvT := ⟨Tryz.prog, lookT [(112, F_ref_some), (113, F_ref_Part), (40, F_ref_CopyStake_o), (114, F_ref_Burn)]⟩
theorem zh101 : (zy101).Ok := lookT_ok ⟨ok_ref_some, ok_ref_Part, ok_ref_CopyStake_o, ok_ref_Burn, trivial⟩
def T_ref_Slash_l1 (x0 : Int) (x1 : Int) (x2 : Int) (x3 : Int) (x4 : Int) (x5 : (List Wait)) (x6 : Int) (x7 : Int) (x8 : Stake) (x9 : Stake) (x10 : Stake) : Tr ((Int × Int × Int × Int × Int × (List Wait) × Int × Int × Stake × Stake × Stake) ⊕ (Int × Int × Int × Stake × Stake × Stake)) :=
  (.ite (decide (x7 < x6))
    (.guard ((0 : Int) ≤ x7 ∧ x7 < ((Sl.len (.waits x5) : Nat) : Int))
    (.ite ((((x5.getD x7.toNat default).V) != x0) || (decide (((x5.getD x7.toNat default).Height) < x1)))
      (.leaf (.inl (x0, x1, x2, x3, x4, x5, x6, IntKind.i64.wrap (x7 + 1), x8, x9, x10)))
      (.bind (sh_ref_Part ((x5.getD x7.toNat default).Amount) x2) fun v4 =>
      (.guard ((0 : Int) ≤ x7 ∧ x7 < ((Sl.len (.waits x10.Waits) : Nat) : Int))
      (.leaf (.inl (x0, x1, x2, x3, IntKind.i64.wrap (x4 + v4.1), x5, x6, IntKind.i64.wrap (x7 + 1), x8, x9, { (x10 : Stake) with Waits := x10.Waits.set x7.toNat ({ ((x10.Waits.getD x7.toNat default) : Wait) with Amount := IntKind.i64.wrap (((x5.getD x7.toNat default).Amount) - v4.1) }) })))))))
    (.leaf (.inr (x0, x3, x4, x8, x9, x10))))
def sh_ref_Slash_l1 (x0 : Int) (x1 : Int) (x2 : Int) (x3 : Int) (x4 : Int) (x5 : (List Wait)) (x6 : Int) (x7 : Int) (x8 : Stake) (x9 : Stake) (x10 : Stake) : Option (Int × Int × Int × Stake × Stake × Stake) := iter (fun s : Int × Int × Int × Int × Int × (List Wait) × Int × Int × Stake × Stake × Stake => (T_ref_Slash_l1 s.1 s.2.1 s.2.2.1 s.2.2.2.1 s.2.2.2.2.1 s.2.2.2.2.2.1 s.2.2.2.2.2.2.1 s.2.2.2.2.2.2.2.1 s.2.2.2.2.2.2.2.2.1 s.2.2.2.2.2.2.2.2.2.1 s.2.2.2.2.2.2.2.2.2.2).run) (x0, x1, x2, x3, x4, x5, x6, x7, x8, x9, x10)
def za101a : Ann := ⟨[], [], [], zv101, []⟩
def zq101a : EndD (Int × Int × Int × Int × Int × (List Wait) × Int × Int × Stake × Stake × Stake) := ⟨(LQ.map (LQ.seq (Par.q intP) (LQ.seq (Par.q intP) (LQ.seq (Par.q intP) (LQ.skip (LQ.const (.ptr 0 0)) (LQ.skip (LQ.const (.ptr 1 0)) (LQ.seq (Par.q intP) (LQ.skip (LQ.const (.ptr 2 0)) (LQ.seq (Par.q intP) (LQ.seq (Par.q waitsP) (LQ.seq (Par.q intP) (LQ.seq (Par.q intP) (LQ.seq (LP.q stakeL) (LQ.seq (LP.q stakeL) (LQ.seq (LP.q bankL) (LQ.seq (LP.q validatorsL) (LQ.seq (LP.q (a4L (a6L (LP.one intP)))) (LQ.skip (LQ.const (.own 3)) (LQ.seq (Par.q intP) (Par.q waitsP))))))))))))))))))) (fun x : Int × Int × Int × Int × Int × (List Wait) × Int × Int × Stake × Stake × Bank × Validators × (A4 (A6 Int)) × Int × (List Wait) => ((x.1, x.2.1, x.2.2.1, x.2.2.2.1, x.2.2.2.2.1, x.2.2.2.2.2.1, x.2.2.2.2.2.2.1, x.2.2.2.2.2.2.2.1, x.2.2.2.2.2.2.2.2.1, x.2.2.2.2.2.2.2.2.2.1, (⟨x.2.2.2.2.2.2.2.2.2.2.1, x.2.2.2.2.2.2.2.2.2.2.2.1, x.2.2.2.2.2.2.2.2.2.2.2.2.1, x.2.2.2.2.2.2.2.2.2.2.2.2.2.2, x.2.2.2.2.2.2.2.2.2.2.2.2.2.1⟩ : Stake)) : Int × Int × Int × Int × Int × (List Wait) × Int × Int × Stake × Stake × Stake)) (fun y => (y.1, y.2.1, y.2.2.1, y.2.2.2.1, y.2.2.2.2.1, y.2.2.2.2.2.1, y.2.2.2.2.2.2.1, y.2.2.2.2.2.2.2.1, y.2.2.2.2.2.2.2.2.1, y.2.2.2.2.2.2.2.2.2.1, y.2.2.2.2.2.2.2.2.2.2.Bank, y.2.2.2.2.2.2.2.2.2.2.Validators, y.2.2.2.2.2.2.2.2.2.2.Shares, y.2.2.2.2.2.2.2.2.2.2.Next, y.2.2.2.2.2.2.2.2.2.2.Waits)) (fun _ => rfl)), ⟨[1, 2, 3, 4, 8, 12, 14, 15, 44, 45, 46], [.nilcell 14 61 81 (.waits []), .pub 44, .nilsl 44 (.waits [])]⟩, [.cells 32 63, .cells 32 63, .cells 32 63, .rows 81]⟩
def zq101ae0 : EndD (Int × Int × Int × Stake × Stake × Stake) := ⟨(LQ.map (LQ.seq (Par.q intP) (LQ.skip (LQ.const (.ptr 0 0)) (LQ.skip (LQ.const (.ptr 1 0)) (LQ.seq (Par.q intP) (LQ.skip (LQ.const (.ptr 2 0)) (LQ.seq (Par.q intP) (LQ.seq (LP.q stakeL) (LQ.seq (LP.q stakeL) (LQ.seq (LP.q bankL) (LQ.seq (LP.q validatorsL) (LQ.seq (LP.q (a4L (a6L (LP.one intP)))) (LQ.skip (LQ.const (.own 3)) (LQ.seq (Par.q intP) (Par.q waitsP)))))))))))))) (fun x : Int × Int × Int × Stake × Stake × Bank × Validators × (A4 (A6 Int)) × Int × (List Wait) => ((x.1, x.2.1, x.2.2.1, x.2.2.2.1, x.2.2.2.2.1, (⟨x.2.2.2.2.2.1, x.2.2.2.2.2.2.1, x.2.2.2.2.2.2.2.1, x.2.2.2.2.2.2.2.2.2, x.2.2.2.2.2.2.2.2.1⟩ : Stake)) : Int × Int × Int × Stake × Stake × Stake)) (fun y => (y.1, y.2.1, y.2.2.1, y.2.2.2.1, y.2.2.2.2.1, y.2.2.2.2.2.Bank, y.2.2.2.2.2.Validators, y.2.2.2.2.2.Shares, y.2.2.2.2.2.Next, y.2.2.2.2.2.Waits)) (fun _ => rfl)), ⟨[1, 4, 8, 12, 14, 15], [.nilcell 14 61 81 (.waits [])]⟩, [.cells 32 63, .cells 32 63, .cells 32 63, .rows 81]⟩
def zl101a : St → Option LR := L1 116 7 0 zq101a (.exit 0) zq101ae0 (fun s => T_ref_Slash_l1 s.1 s.2.1 s.2.2.1 s.2.2.2.1 s.2.2.2.2.1 s.2.2.2.2.2.1 s.2.2.2.2.2.2.1 s.2.2.2.2.2.2.2.1 s.2.2.2.2.2.2.2.2.1 s.2.2.2.2.2.2.2.2.2.1 s.2.2.2.2.2.2.2.2.2.2)
theorem zk101a : PieceOk (zy101).env 0 (sub zc101 [0, 1, 0, 1, 1, 1, 1, 1, 1]) zl101a :=
  loop1 (A := za101a) zh101 Facts.mix trivial (k := loopB (sub zc101 [0, 1, 0, 1, 1, 1, 1, 1, 1])) (by kernel_rfl) rfl (by rintro ⟨x0, x1, x2, x3, x4, x5, x6, x7, x8, x9, x10⟩; kernel_rfl)
def za101 : Ann := ⟨[([0, 1, 0, 1, 1, 1, 1, 1, 1], zl101a)], [], [], zv101, []⟩
def T_ref_Slash (a0 : Stake) (a1 : Int) (a2 : Int) (a3 : Int) : Tr (Stake × Int × Int) :=
  (.bind (sh_ref_some a0 0 a1) fun v1 =>
  (.ite (v1 != 0)
    (.leaf (a0, 0, v1))
    (.guard ((0 : Int) ≤ a1 ∧ (a1 : Int) < 6)
    (.bind (sh_ref_Part (a0.Validators.Tokens.get a1) a3) fun v2 =>
    (.ite (v2.2 != 0)
      (.leaf (a0, 0, v2.2))
      (.bind (sh_ref_CopyStake_o a0) fun v3 =>
      (.bind (sh_ref_Slash_l1 a1 a2 a3 v2.1 0 a0.Waits ((a0.Waits.length : Nat) : Int) 0 a0 (default : Stake) v3) fun v5 =>
      (.bind (sh_ref_Burn v5.2.2.2.1.Bank v5.2.1 v5.2.2.1) fun v6 =>
      (.guard ((0 : Int) ≤ v5.1 ∧ (v5.1 : Int) < 6)
      (.guard ((0 : Int) ≤ v5.1 ∧ (v5.1 : Int) < 6)
      (.guard ((0 : Int) ≤ v5.1 ∧ (v5.1 : Int) < 6)
      (.guard ((0 : Int) ≤ v5.1 ∧ (v5.1 : Int) < 6)
      (.leaf ({ (v5.2.2.2.2.2 : Stake) with Bank := v6.1, Validators := { (v5.2.2.2.2.2.Validators : Validators) with Tokens := (v5.2.2.2.2.2.Validators.Tokens.set v5.1 (IntKind.i64.wrap ((v5.2.2.2.2.2.Validators.Tokens.get v5.1) - v5.2.1))), Lost := (v5.2.2.2.2.2.Validators.Lost.set v5.1 (IntKind.i64.wrap ((v5.2.2.2.2.2.Validators.Lost.get v5.1) + (IntKind.i64.wrap (v5.2.1 + v5.2.2.1))))) } }, IntKind.i64.wrap (v5.2.1 + v5.2.2.1), 0))))))))))))))
def sh_ref_Slash (a0 : Stake) (a1 : Int) (a2 : Int) (a3 : Int) : Option (Stake × Int × Int) := (T_ref_Slash a0 a1 a2 a3).run
def zr101 : LQ (Stake × Int × Int × Int) := (LQ.seq (Par.q (Par.ofLP stakeL)) (LQ.seq (Par.q intP) (LQ.seq (Par.q intP) (Par.q intP))))
def qr_ref_Slash : LQ (Stake × Int × Int) := (LQ.seq (Par.q (Par.ofLP stakeL)) (LQ.seq (Par.q intP) (Par.q intP)))
def F_ref_Slash : SpecT := specF 0 zr101 4 [] (fun s => T_ref_Slash s.1 s.2.1 s.2.2.1 s.2.2.2) default qr_ref_Slash 3 []
theorem ok_ref_Slash : SpecOk Tryz.prog 62 (F_ref_Slash).spec :=
  specF_ok (A := za101) zh101 Facts.mix Tryz.func62 (c := zc101) (by kernel_rfl) (Lc := 0) ⟨zk101a, trivial⟩ zr101 4 7 [] (fun s => T_ref_Slash s.1 s.2.1 s.2.2.1 s.2.2.2) default qr_ref_Slash 3 [] [.pubB 8] (by decide) (by kernel_rfl) (by rfl) (by decide) (by decide) (by rfl)
    (by rintro ⟨a0, a1, a2, a3⟩; kernel_rfl)

noncomputable def zc102 : Code := Tryz.f63.body.getD .skip
def zv102 : List (List Nat) := [[1, 2, 3, 6], [1, 2, 3, 6, 8], [1, 2, 3, 6, 8, 15], [6, 7], [1, 2, 3, 6, 9], [1, 2, 3, 6, 9, 10], [1, 2, 3, 6, 9, 10, 24], [6, 7], [1, 2, 3, 6, 9, 10, 32], [6, 7], [1, 2, 3, 6, 10, 40], [6, 7], [1, 2, 6, 10], [6, 10], [6, 7]]
noncomputable def zy102 : EnvT := ⟨Tryz.prog, lookT [(112, F_ref_some), (40, F_ref_CopyStake)]⟩
theorem zh102 : (zy102).Ok := lookT_ok ⟨ok_ref_some, ok_ref_CopyStake, trivial⟩
def za102 : Ann := ⟨[], [], [], zv102, []⟩
def T_ref_Judge (a0 : Stake) (a1 : Int) (a2 : Int) : Tr (Stake × Int) :=
  (.bind (sh_ref_some a0 0 a1) fun v1 =>
  (.ite (v1 != 0)
    (.leaf (a0, v1))
    (.guard ((0 : Int) ≤ a1 ∧ (a1 : Int) < 6)
    (.bind (sh_ref_CopyStake a0) fun v2 =>
    (.ite ((a2 == 0) && (a0.Validators.Jailed.get a1))
      (.leaf (a0, 14))
      (.ite ((decide (a2 > 0)) && (a0.Validators.Dead.get a1))
        (.leaf (a0, 15))
        (.ite ((a2 == 1) && (!(a0.Validators.Jailed.get a1)))
          (.leaf (a0, 4))
          (.guard ((0 : Int) ≤ a1 ∧ (a1 : Int) < 6)
          (.guard ((0 : Int) ≤ a1 ∧ (a1 : Int) < 6)
          (.leaf ({ (v2 : Stake) with Validators := { (v2.Validators : Validators) with Jailed := (v2.Validators.Jailed.set a1 (a2 != 1)), Dead := (v2.Validators.Dead.set a1 (a2 == 2)) } }, 0)))))))))))
def sh_ref_Judge (a0 : Stake) (a1 : Int) (a2 : Int) : Option (Stake × Int) := (T_ref_Judge a0 a1 a2).run
def zr102 : LQ (Stake × Int × Int) := (LQ.seq (Par.q (Par.ofLP stakeL)) (LQ.seq (Par.q intP) (Par.q intP)))
def qr_ref_Judge : LQ (Stake × Int) := (LQ.seq (Par.q (Par.ofLP stakeL)) (Par.q intP))
def F_ref_Judge : SpecT := specF 0 zr102 3 [] (fun s => T_ref_Judge s.1 s.2.1 s.2.2) default qr_ref_Judge 2 []
theorem ok_ref_Judge : SpecOk Tryz.prog 63 (F_ref_Judge).spec :=
  specF_ok (A := za102) zh102 Facts.mix Tryz.func63 (c := zc102) (by kernel_rfl) (Lc := 0) trivial zr102 3 6 [] (fun s => T_ref_Judge s.1 s.2.1 s.2.2) default qr_ref_Judge 2 [] [.pubB 6] (by decide) (by kernel_rfl) (by rfl) (by decide) (by decide) (by rfl)
    (by rintro ⟨a0, a1, a2⟩; kernel_rfl)

end
end Go.Proofs.YtknbejjfejdppaaGreat.Ab
