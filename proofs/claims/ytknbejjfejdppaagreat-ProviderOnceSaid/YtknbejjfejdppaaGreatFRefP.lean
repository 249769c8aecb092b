/-
  The functions, each by its tree.
-/
import Derived.Test.YtknbejjfejdppaaGreatFacts
import Derived.Test.YtknbejjfejdppaaGreatAbStructs
import Derived.Test.YtknbejjfejdppaaGreatAbFun
import Derived.Test.YtknbejjfejdppaaGreatFLine
import Derived.Test.YtknbejjfejdppaaGreatFCodec
import Derived.Test.YtknbejjfejdppaaGreatFRefA
import Derived.Test.YtknbejjfejdppaaGreatFRefB
import Derived.Test.YtknbejjfejdppaaGreatFBank
namespace Go.Proofs.YtknbejjfejdppaaGreat.Ab
open Go Go.RowKit
set_option maxRecDepth 100000
set_option linter.unusedVariables false
set_option linter.unusedSimpArgs false
noncomputable section

noncomputable def zc131 : Code := Tryz.f88.body.getD .skip
def zv131 : List (List Nat) := [[0], [0, 3], [3, 6, 7, 8], [3, 6, 7, 8, 9], [3, 5, 6, 7, 8], [5, 6, 7, 8, 30], [2], [3, 6, 7, 8], [3, 6, 7, 8], [2]]
noncomputable def zy131 : EnvT := ⟨Tryz.prog, lookT []⟩
theorem zh131 : (zy131).Ok := lookT_ok trivial
def T_ref_isSet_l1 (x0 : Int) (x1 : (List Power)) (x2 : Int) (x3 : Int) : Tr ((Int × (List Power) × Int × Int) ⊕ ((Bool) ⊕ (Unit))) :=
  (.ite (decide (x3 < x2))
    (.guard ((0 : Int) ≤ x3 ∧ x3 < ((Sl.len (.powers x1) : Nat) : Int))
    (.ite ((((decide (((x1.getD x3.toNat default).V) ≤ x0)) || (decide (((x1.getD x3.toNat default).V) > 5))) || (decide (((x1.getD x3.toNat default).N) < 1))) || (decide (((x1.getD x3.toNat default).N) > 1125899906842624)))
      (.leaf (.inr (.inl false)))
      (.leaf (.inl ((x1.getD x3.toNat default).V, x1, x2, IntKind.i64.wrap (x3 + 1))))))
    (.leaf (.inr (.inr ()))))
def sh_ref_isSet_l1 (x0 : Int) (x1 : (List Power)) (x2 : Int) (x3 : Int) : Option ((Bool) ⊕ (Unit)) := iter (fun s : Int × (List Power) × Int × Int => (T_ref_isSet_l1 s.1 s.2.1 s.2.2.1 s.2.2.2).run) (x0, x1, x2, x3)
def za131a : Ann := ⟨[], [], [], zv131, []⟩
def zq131a : EndD (Int × (List Power) × Int × Int) := ⟨(LQ.seq (Par.q intP) (LQ.seq (Par.q powersP) (LQ.seq (Par.q intP) (Par.q intP)))), ⟨[3, 6, 7, 8], [.pub 6, .nilsl 6 (.powers [])]⟩, []⟩
def zq131ae0 : EndD (Bool) := ⟨(Par.q boolP), ⟨[2], []⟩, []⟩
def zq131ae1 : EndD (Unit) := ⟨LQ.nil, ⟨[], []⟩, []⟩
def zl131a : St → Option LR := L2 34 3 0 zq131a .ret zq131ae0 (.exit 0) zq131ae1 (fun s => T_ref_isSet_l1 s.1 s.2.1 s.2.2.1 s.2.2.2)
theorem zk131a : PieceOk (zy131).env 0 (sub zc131 [0, 1, 0, 1, 1]) zl131a :=
  loop2 (A := za131a) zh131 Facts.mix trivial (k := loopB (sub zc131 [0, 1, 0, 1, 1])) (by kernel_rfl) rfl rfl (by rintro ⟨x0, x1, x2, x3⟩; kernel_rfl)
def za131 : Ann := ⟨[([0, 1, 0, 1, 1], zl131a)], [], [], zv131, []⟩
def T_ref_isSet (a0 : (List Power)) : Tr (Bool) :=
  (.two (sh_ref_isSet_l1 (-1) a0 ((a0.length : Nat) : Int) 0) (fun v1 =>
    (.leaf v1)) (fun v2 =>
    (.leaf true)))
def sh_ref_isSet (a0 : (List Power)) : Option (Bool) := (T_ref_isSet a0).run
def zr131 : LQ ((List Power)) := (Par.q powersP)
def qr_ref_isSet : LQ (Bool) := (Par.q boolP)
def F_ref_isSet : SpecT := specF 0 zr131 1 [] (fun s => T_ref_isSet s) default qr_ref_isSet 1 []
theorem ok_ref_isSet : SpecOk Tryz.prog 88 (F_ref_isSet).spec :=
  specF_ok (A := za131) zh131 Facts.mix Tryz.func88 (c := zc131) (by kernel_rfl) (Lc := 0) ⟨zk131a, trivial⟩ zr131 1 3 [] (fun s => T_ref_isSet s) default qr_ref_isSet 1 [] [] (by decide) (by kernel_rfl) (by rfl) (by decide) (by decide) (by rfl)
    (by rintro a0; kernel_rfl)

noncomputable def zc132 : Code := Tryz.f11.body.getD .skip
def zv132 : List (List Nat) := [[1, 2], [1, 2], [1, 2], [1, 2, 16], [1, 2, 16, 17], [1, 2, 3, 16], [1, 2, 4, 16], [1, 2, 16], [1, 2, 16], [1, 2, 5], [1, 2, 5, 48, 49, 50], [1, 2, 5, 48, 49, 50, 51], [1, 2, 5, 7, 48, 49, 50], [1, 2, 5, 48, 49, 50], [1, 2, 5, 48, 49, 50], [1, 2], [2]]
noncomputable def zy132 : EnvT := ⟨Tryz.prog, lookT [(40, F_ref_CopyStake_o), (41, F_ref_CopyLine_p), (42, F_ref_CopyPacket)]⟩
theorem zh132 : (zy132).Ok := lookT_ok ⟨ok_ref_CopyStake_o, ok_ref_CopyLine_p, ok_ref_CopyPacket, trivial⟩
def T_ref_CopyProvider_l1 (x0 : Int) (x1 : Provider) (x2 : Provider) : Tr ((Int × Provider × Provider) ⊕ (Provider × Provider)) :=
  (.ite (decide (x0 < 2))
    (.guard ((0 : Int) ≤ x0 ∧ (x0 : Int) < 2)
    (.guard ((0 + Sl.len (.powers (x1.Links.Told.get x0))) * 16 ≤ 140737488355328)
    (.guard ((0 + Sl.len (.ints (x1.Links.Done.get x0))) * 8 ≤ 140737488355328)
    (.guard ((sh_ref_CopyLine_p (⟨x1.Links.Said.get x0, x1.Links.Due.get x0, x1.Links.Got.get x0, x1.Links.Closed.get x0⟩ : Line)).isSome = true)
    (.leaf (.inl (IntKind.i64.wrap (x0 + 1), { (x1 : Provider) with Links := { (x1.Links : Links) with Told := (x1.Links.Told.set x0 (x1.Links.Told.get x0)), Done := (x1.Links.Done.set x0 (x1.Links.Done.get x0)), Said := (x1.Links.Said.set x0 (((sh_ref_CopyLine_p (⟨x1.Links.Said.get x0, x1.Links.Due.get x0, x1.Links.Got.get x0, x1.Links.Closed.get x0⟩ : Line)).getD default).Said)), Due := (x1.Links.Due.set x0 (((sh_ref_CopyLine_p (⟨x1.Links.Said.get x0, x1.Links.Due.get x0, x1.Links.Got.get x0, x1.Links.Closed.get x0⟩ : Line)).getD default).Due)), Got := (x1.Links.Got.set x0 (((sh_ref_CopyLine_p (⟨x1.Links.Said.get x0, x1.Links.Due.get x0, x1.Links.Got.get x0, x1.Links.Closed.get x0⟩ : Line)).getD default).Got)), Closed := (x1.Links.Closed.set x0 (((sh_ref_CopyLine_p (⟨x1.Links.Said.get x0, x1.Links.Due.get x0, x1.Links.Got.get x0, x1.Links.Closed.get x0⟩ : Line)).getD default).Closed)) } }, x2)))))))
    (.leaf (.inr (x1, x2))))
def sh_ref_CopyProvider_l1 (x0 : Int) (x1 : Provider) (x2 : Provider) : Option (Provider × Provider) := iter (fun s : Int × Provider × Provider => (T_ref_CopyProvider_l1 s.1 s.2.1 s.2.2).run) (x0, x1, x2)
def za132a : Ann := ⟨[], [], [], zv132, []⟩
def zq132a : EndD (Int × Provider × Provider) := ⟨(LQ.map (LQ.skip (LQ.const (.ptr 0 0)) (LQ.skip (LQ.const (.ptr 1 0)) (LQ.seq (Par.q intP) (LQ.seq (Par.q intP) (LQ.seq (Par.q intP) (LQ.seq (LP.q bankL) (LQ.seq (LP.q validatorsL) (LQ.seq (LP.q (a4L (a6L (LP.one intP)))) (LQ.skip (LQ.const (.own 2)) (LQ.seq (Par.q intP) (LQ.skip (LQ.const (.own 3)) (LQ.seq (LP.q linksL) (LQ.seq (LP.q meterL) (LQ.seq (Par.q askedP) (LQ.seq (LP.q providerL) (LQ.seq (Par.q waitsP) (Par.q powersP))))))))))))))))) (fun x : Int × Int × Int × Bank × Validators × (A4 (A6 Int)) × Int × Links × Meter × (List Asked) × Provider × (List Wait) × (List Power) => ((x.1, (⟨x.2.1, x.2.2.1, (⟨x.2.2.2.1, x.2.2.2.2.1, x.2.2.2.2.2.1, x.2.2.2.2.2.2.2.2.2.2.2.1, x.2.2.2.2.2.2.1⟩ : Stake), x.2.2.2.2.2.2.2.2.2.2.2.2, x.2.2.2.2.2.2.2.1, x.2.2.2.2.2.2.2.2.1, x.2.2.2.2.2.2.2.2.2.1⟩ : Provider), x.2.2.2.2.2.2.2.2.2.2.1) : Int × Provider × Provider)) (fun y => (y.1, y.2.1.Height, y.2.1.Time, y.2.1.Stake.Bank, y.2.1.Stake.Validators, y.2.1.Stake.Shares, y.2.1.Stake.Next, y.2.1.Links, y.2.1.Meter, y.2.1.Queue, y.2.2, y.2.1.Stake.Waits, y.2.1.Set)) (fun _ => rfl)), ⟨[1, 2, 16], [.nilcell 1 63 81 (.waits []), .nilcell 1 65 116 (.powers [])]⟩, [.cells 47 97, .cells 47 97, .rows 81, .rows 116]⟩
def zq132ae0 : EndD (Provider × Provider) := ⟨(LQ.map (LQ.skip (LQ.const (.ptr 0 0)) (LQ.skip (LQ.const (.ptr 1 0)) (LQ.seq (Par.q intP) (LQ.seq (Par.q intP) (LQ.seq (LP.q bankL) (LQ.seq (LP.q validatorsL) (LQ.seq (LP.q (a4L (a6L (LP.one intP)))) (LQ.skip (LQ.const (.own 2)) (LQ.seq (Par.q intP) (LQ.skip (LQ.const (.own 3)) (LQ.seq (LP.q linksL) (LQ.seq (LP.q meterL) (LQ.seq (Par.q askedP) (LQ.seq (LP.q providerL) (LQ.seq (Par.q waitsP) (Par.q powersP)))))))))))))))) (fun x : Int × Int × Bank × Validators × (A4 (A6 Int)) × Int × Links × Meter × (List Asked) × Provider × (List Wait) × (List Power) => (((⟨x.1, x.2.1, (⟨x.2.2.1, x.2.2.2.1, x.2.2.2.2.1, x.2.2.2.2.2.2.2.2.2.2.1, x.2.2.2.2.2.1⟩ : Stake), x.2.2.2.2.2.2.2.2.2.2.2, x.2.2.2.2.2.2.1, x.2.2.2.2.2.2.2.1, x.2.2.2.2.2.2.2.2.1⟩ : Provider), x.2.2.2.2.2.2.2.2.2.1) : Provider × Provider)) (fun y => (y.1.Height, y.1.Time, y.1.Stake.Bank, y.1.Stake.Validators, y.1.Stake.Shares, y.1.Stake.Next, y.1.Links, y.1.Meter, y.1.Queue, y.2, y.1.Stake.Waits, y.1.Set)) (fun _ => rfl)), ⟨[1, 2], [.nilcell 1 63 81 (.waits []), .nilcell 1 65 116 (.powers [])]⟩, [.cells 47 97, .cells 47 97, .rows 81, .rows 116]⟩
def zl132a : St → Option LR := L1 67 10 0 zq132a (.exit 0) zq132ae0 (fun s => T_ref_CopyProvider_l1 s.1 s.2.1 s.2.2)
theorem zk132a : PieceOk (zy132).env 0 (sub zc132 [0, 1, 0, 1, 1, 1]) zl132a :=
  loop1 (A := za132a) zh132 Facts.mix trivial (k := loopB (sub zc132 [0, 1, 0, 1, 1, 1])) (by kernel_rfl) rfl (by rintro ⟨x0, x1, x2⟩; kernel_rfl)
def T_ref_CopyProvider_l2 (x0 : (List Asked)) (x1 : Int) (x2 : Int) (x3 : Provider) (x4 : Provider) (x5 : (List Asked)) : Tr (((List Asked) × Int × Int × Provider × Provider × (List Asked)) ⊕ (Provider × Provider × (List Asked))) :=
  (.ite (decide (x2 < x1))
    (.guard ((0 : Int) ≤ x2 ∧ x2 < ((Sl.len (.asked x0) : Nat) : Int))
    (.guard ((sh_ref_CopyPacket ((x0.getD x2.toNat default).P)).isSome = true)
    (.guard ((Sl.len (.asked x5) + Sl.len (.asked [(⟨(x0.getD x2.toNat default).C, ((sh_ref_CopyPacket ((x0.getD x2.toNat default).P)).getD default)⟩ : Asked)])) * 88 ≤ 140737488355328)
    (.leaf (.inl (x0, x1, IntKind.i64.wrap (x2 + 1), x3, x4, x5 ++ [(⟨(x0.getD x2.toNat default).C, ((sh_ref_CopyPacket ((x0.getD x2.toNat default).P)).getD default)⟩ : Asked)]))))))
    (.leaf (.inr (x3, x4, x5))))
def sh_ref_CopyProvider_l2 (x0 : (List Asked)) (x1 : Int) (x2 : Int) (x3 : Provider) (x4 : Provider) (x5 : (List Asked)) : Option (Provider × Provider × (List Asked)) := iter (fun s : (List Asked) × Int × Int × Provider × Provider × (List Asked) => (T_ref_CopyProvider_l2 s.1 s.2.1 s.2.2.1 s.2.2.2.1 s.2.2.2.2.1 s.2.2.2.2.2).run) (x0, x1, x2, x3, x4, x5)
def za132b : Ann := ⟨[], [], [], zv132, []⟩
def zq132b : EndD ((List Asked) × Int × Int × Provider × Provider × (List Asked)) := ⟨(LQ.map (LQ.skip (LQ.const (.ptr 0 0)) (LQ.skip (LQ.const (.ptr 1 0)) (LQ.skip (LQ.const (.own 2)) (LQ.seq (Par.q askedP) (LQ.seq (Par.q intP) (LQ.seq (Par.q intP) (LQ.seq (Par.q intP) (LQ.seq (Par.q intP) (LQ.seq (LP.q bankL) (LQ.seq (LP.q validatorsL) (LQ.seq (LP.q (a4L (a6L (LP.one intP)))) (LQ.skip (LQ.const (.own 3)) (LQ.seq (Par.q intP) (LQ.skip (LQ.const (.own 4)) (LQ.seq (LP.q linksL) (LQ.seq (LP.q meterL) (LQ.seq (Par.q askedP) (LQ.seq (LP.q providerL) (LQ.seq (Par.q askedP) (LQ.seq (Par.q waitsP) (Par.q powersP))))))))))))))))))))) (fun x : (List Asked) × Int × Int × Int × Int × Bank × Validators × (A4 (A6 Int)) × Int × Links × Meter × (List Asked) × Provider × (List Asked) × (List Wait) × (List Power) => ((x.1, x.2.1, x.2.2.1, (⟨x.2.2.2.1, x.2.2.2.2.1, (⟨x.2.2.2.2.2.1, x.2.2.2.2.2.2.1, x.2.2.2.2.2.2.2.1, x.2.2.2.2.2.2.2.2.2.2.2.2.2.2.1, x.2.2.2.2.2.2.2.2.1⟩ : Stake), x.2.2.2.2.2.2.2.2.2.2.2.2.2.2.2, x.2.2.2.2.2.2.2.2.2.1, x.2.2.2.2.2.2.2.2.2.2.1, x.2.2.2.2.2.2.2.2.2.2.2.1⟩ : Provider), x.2.2.2.2.2.2.2.2.2.2.2.2.1, x.2.2.2.2.2.2.2.2.2.2.2.2.2.1) : (List Asked) × Int × Int × Provider × Provider × (List Asked))) (fun y => (y.1, y.2.1, y.2.2.1, y.2.2.2.1.Height, y.2.2.2.1.Time, y.2.2.2.1.Stake.Bank, y.2.2.2.1.Stake.Validators, y.2.2.2.1.Stake.Shares, y.2.2.2.1.Stake.Next, y.2.2.2.1.Links, y.2.2.2.1.Meter, y.2.2.2.1.Queue, y.2.2.2.2.1, y.2.2.2.2.2, y.2.2.2.1.Stake.Waits, y.2.2.2.1.Set)) (fun _ => rfl)), ⟨[1, 2, 5, 48, 49, 50], [.nilcell 1 63 81 (.waits []), .nilcell 1 65 116 (.powers []), .nilown 5 83 (.asked []), .pub 48, .nilsl 48 (.asked [])]⟩, [.cells 47 97, .cells 47 97, .rows 83, .rows 81, .rows 116]⟩
def zq132be0 : EndD (Provider × Provider × (List Asked)) := ⟨(LQ.map (LQ.skip (LQ.const (.ptr 0 0)) (LQ.skip (LQ.const (.ptr 1 0)) (LQ.skip (LQ.const (.own 2)) (LQ.seq (Par.q intP) (LQ.seq (Par.q intP) (LQ.seq (LP.q bankL) (LQ.seq (LP.q validatorsL) (LQ.seq (LP.q (a4L (a6L (LP.one intP)))) (LQ.skip (LQ.const (.own 3)) (LQ.seq (Par.q intP) (LQ.skip (LQ.const (.own 4)) (LQ.seq (LP.q linksL) (LQ.seq (LP.q meterL) (LQ.seq (Par.q askedP) (LQ.seq (LP.q providerL) (LQ.seq (Par.q askedP) (LQ.seq (Par.q waitsP) (Par.q powersP)))))))))))))))))) (fun x : Int × Int × Bank × Validators × (A4 (A6 Int)) × Int × Links × Meter × (List Asked) × Provider × (List Asked) × (List Wait) × (List Power) => (((⟨x.1, x.2.1, (⟨x.2.2.1, x.2.2.2.1, x.2.2.2.2.1, x.2.2.2.2.2.2.2.2.2.2.2.1, x.2.2.2.2.2.1⟩ : Stake), x.2.2.2.2.2.2.2.2.2.2.2.2, x.2.2.2.2.2.2.1, x.2.2.2.2.2.2.2.1, x.2.2.2.2.2.2.2.2.1⟩ : Provider), x.2.2.2.2.2.2.2.2.2.1, x.2.2.2.2.2.2.2.2.2.2.1) : Provider × Provider × (List Asked))) (fun y => (y.1.Height, y.1.Time, y.1.Stake.Bank, y.1.Stake.Validators, y.1.Stake.Shares, y.1.Stake.Next, y.1.Links, y.1.Meter, y.1.Queue, y.2.1, y.2.2, y.1.Stake.Waits, y.1.Set)) (fun _ => rfl)), ⟨[1, 2, 5], [.nilcell 1 63 81 (.waits []), .nilcell 1 65 116 (.powers []), .nilown 5 83 (.asked [])]⟩, [.cells 47 97, .cells 47 97, .rows 83, .rows 81, .rows 116]⟩
def zl132b : St → Option LR := L1 67 10 0 zq132b (.exit 2) zq132be0 (fun s => T_ref_CopyProvider_l2 s.1 s.2.1 s.2.2.1 s.2.2.2.1 s.2.2.2.2.1 s.2.2.2.2.2)
theorem zk132b : PieceOk (zy132).env 0 (sub zc132 [0, 1, 0, 1, 1, 1, 1, 1]) zl132b :=
  loop1 (A := za132b) zh132 Facts.mix trivial (k := loopB (sub zc132 [0, 1, 0, 1, 1, 1, 1, 1])) (by kernel_rfl) rfl (by rintro ⟨x0, x1, x2, x3, x4, x5⟩; kernel_rfl)
def za132 : Ann := ⟨[([0, 1, 0, 1, 1, 1], zl132a), ([0, 1, 0, 1, 1, 1, 1, 1], zl132b)], [], [], zv132, []⟩
def T_ref_CopyProvider (a0 : Provider) : Tr (Provider) :=
  (.bind (sh_ref_CopyStake_o a0.Stake) fun v1 =>
  (.guard ((0 + Sl.len (.powers a0.Set)) * 16 ≤ 140737488355328)
  (.bind (sh_ref_CopyProvider_l1 0 ({ (a0 : Provider) with Stake := v1 }) (default : Provider)) fun v2 =>
  (.bind (sh_ref_CopyProvider_l2 v2.1.Queue ((v2.1.Queue.length : Nat) : Int) 0 v2.1 v2.2 []) fun v3 =>
  (.leaf ({ (v3.1 : Provider) with Queue := v3.2.2 }))))))
def sh_ref_CopyProvider (a0 : Provider) : Option (Provider) := (T_ref_CopyProvider a0).run
def zr132 : LQ (Provider) := (Par.q (Par.ofLP providerL))
def qr_ref_CopyProvider : LQ (Provider) := (Par.q (Par.ofLP providerL))
def F_ref_CopyProvider : SpecT := specF 0 zr132 1 [] (fun s => T_ref_CopyProvider s) default qr_ref_CopyProvider 1 []
theorem ok_ref_CopyProvider : SpecOk Tryz.prog 11 (F_ref_CopyProvider).spec :=
  specF_ok (A := za132) zh132 Facts.mix Tryz.func11 (c := zc132) (by kernel_rfl) (Lc := 0) ⟨zk132a, zk132b, trivial⟩ zr132 1 10 [] (fun s => T_ref_CopyProvider s) default qr_ref_CopyProvider 1 [] [.pubB 2] (by decide) (by kernel_rfl) (by rfl) (by decide) (by decide) (by rfl)
    (by rintro a0; kernel_rfl)

noncomputable def zc133 : Code := Tryz.f11.body.getD .skip
def zv133 : List (List Nat) := [[1, 2], [1, 2], [1, 2], [1, 2, 16], [1, 2, 16, 17], [1, 2, 3, 16], [1, 2, 4, 16], [1, 2, 16], [1, 2, 16], [1, 2, 5], [1, 2, 5, 48, 49, 50], [1, 2, 5, 48, 49, 50, 51], [1, 2, 5, 7, 48, 49, 50], [1, 2, 5, 48, 49, 50], [1, 2, 5, 48, 49, 50], [1, 2], [2]]
noncomputable def zy133 : EnvT := ⟨Tryz.prog, lookT [(40, F_ref_CopyStake_o), (41, F_ref_CopyLine_p), (42, F_ref_CopyPacket)]⟩
theorem zh133 : (zy133).Ok := lookT_ok ⟨ok_ref_CopyStake_o, ok_ref_CopyLine_p, ok_ref_CopyPacket, trivial⟩
def T_ref_CopyProvider_o_l1 (x0 : Int) (x1 : Provider) (x2 : Provider) : Tr ((Int × Provider × Provider) ⊕ (Provider × Provider)) :=
  (.ite (decide (x0 < 2))
    (.guard ((0 : Int) ≤ x0 ∧ (x0 : Int) < 2)
    (.guard ((0 + Sl.len (.powers (x1.Links.Told.get x0))) * 16 ≤ 140737488355328)
    (.guard ((0 + Sl.len (.ints (x1.Links.Done.get x0))) * 8 ≤ 140737488355328)
    (.guard ((sh_ref_CopyLine_p (⟨x1.Links.Said.get x0, x1.Links.Due.get x0, x1.Links.Got.get x0, x1.Links.Closed.get x0⟩ : Line)).isSome = true)
    (.leaf (.inl (IntKind.i64.wrap (x0 + 1), { (x1 : Provider) with Links := { (x1.Links : Links) with Told := (x1.Links.Told.set x0 (x1.Links.Told.get x0)), Done := (x1.Links.Done.set x0 (x1.Links.Done.get x0)), Said := (x1.Links.Said.set x0 (((sh_ref_CopyLine_p (⟨x1.Links.Said.get x0, x1.Links.Due.get x0, x1.Links.Got.get x0, x1.Links.Closed.get x0⟩ : Line)).getD default).Said)), Due := (x1.Links.Due.set x0 (((sh_ref_CopyLine_p (⟨x1.Links.Said.get x0, x1.Links.Due.get x0, x1.Links.Got.get x0, x1.Links.Closed.get x0⟩ : Line)).getD default).Due)), Got := (x1.Links.Got.set x0 (((sh_ref_CopyLine_p (⟨x1.Links.Said.get x0, x1.Links.Due.get x0, x1.Links.Got.get x0, x1.Links.Closed.get x0⟩ : Line)).getD default).Got)), Closed := (x1.Links.Closed.set x0 (((sh_ref_CopyLine_p (⟨x1.Links.Said.get x0, x1.Links.Due.get x0, x1.Links.Got.get x0, x1.Links.Closed.get x0⟩ : Line)).getD default).Closed)) } }, x2)))))))
    (.leaf (.inr (x1, x2))))
def sh_ref_CopyProvider_o_l1 (x0 : Int) (x1 : Provider) (x2 : Provider) : Option (Provider × Provider) := iter (fun s : Int × Provider × Provider => (T_ref_CopyProvider_o_l1 s.1 s.2.1 s.2.2).run) (x0, x1, x2)
def za133a : Ann := ⟨[], [], [], zv133, []⟩
def zq133a : EndD (Int × Provider × Provider) := ⟨(LQ.map (LQ.skip (LQ.const (.ptr 0 0)) (LQ.skip (LQ.const (.ptr 1 0)) (LQ.seq (Par.q intP) (LQ.seq (Par.q intP) (LQ.seq (Par.q intP) (LQ.seq (LP.q bankL) (LQ.seq (LP.q validatorsL) (LQ.seq (LP.q (a4L (a6L (LP.one intP)))) (LQ.skip (LQ.const (.own 2)) (LQ.seq (Par.q intP) (LQ.skip (LQ.const (.own 3)) (LQ.seq (LP.q linksL) (LQ.seq (LP.q meterL) (LQ.seq (Par.q askedP) (LQ.seq (LP.q providerL) (LQ.seq (Par.q waitsP) (Par.q powersP))))))))))))))))) (fun x : Int × Int × Int × Bank × Validators × (A4 (A6 Int)) × Int × Links × Meter × (List Asked) × Provider × (List Wait) × (List Power) => ((x.1, (⟨x.2.1, x.2.2.1, (⟨x.2.2.2.1, x.2.2.2.2.1, x.2.2.2.2.2.1, x.2.2.2.2.2.2.2.2.2.2.2.1, x.2.2.2.2.2.2.1⟩ : Stake), x.2.2.2.2.2.2.2.2.2.2.2.2, x.2.2.2.2.2.2.2.1, x.2.2.2.2.2.2.2.2.1, x.2.2.2.2.2.2.2.2.2.1⟩ : Provider), x.2.2.2.2.2.2.2.2.2.2.1) : Int × Provider × Provider)) (fun y => (y.1, y.2.1.Height, y.2.1.Time, y.2.1.Stake.Bank, y.2.1.Stake.Validators, y.2.1.Stake.Shares, y.2.1.Stake.Next, y.2.1.Links, y.2.1.Meter, y.2.1.Queue, y.2.2, y.2.1.Stake.Waits, y.2.1.Set)) (fun _ => rfl)), ⟨[1, 2, 16], [.nilcell 1 63 81 (.waits []), .nilcell 1 65 116 (.powers [])]⟩, [.cells 47 97, .cells 47 97, .rows 81, .rows 116]⟩
def zq133ae0 : EndD (Provider × Provider) := ⟨(LQ.map (LQ.skip (LQ.const (.ptr 0 0)) (LQ.skip (LQ.const (.ptr 1 0)) (LQ.seq (Par.q intP) (LQ.seq (Par.q intP) (LQ.seq (LP.q bankL) (LQ.seq (LP.q validatorsL) (LQ.seq (LP.q (a4L (a6L (LP.one intP)))) (LQ.skip (LQ.const (.own 2)) (LQ.seq (Par.q intP) (LQ.skip (LQ.const (.own 3)) (LQ.seq (LP.q linksL) (LQ.seq (LP.q meterL) (LQ.seq (Par.q askedP) (LQ.seq (LP.q providerL) (LQ.seq (Par.q waitsP) (Par.q powersP)))))))))))))))) (fun x : Int × Int × Bank × Validators × (A4 (A6 Int)) × Int × Links × Meter × (List Asked) × Provider × (List Wait) × (List Power) => (((⟨x.1, x.2.1, (⟨x.2.2.1, x.2.2.2.1, x.2.2.2.2.1, x.2.2.2.2.2.2.2.2.2.2.1, x.2.2.2.2.2.1⟩ : Stake), x.2.2.2.2.2.2.2.2.2.2.2, x.2.2.2.2.2.2.1, x.2.2.2.2.2.2.2.1, x.2.2.2.2.2.2.2.2.1⟩ : Provider), x.2.2.2.2.2.2.2.2.2.1) : Provider × Provider)) (fun y => (y.1.Height, y.1.Time, y.1.Stake.Bank, y.1.Stake.Validators, y.1.Stake.Shares, y.1.Stake.Next, y.1.Links, y.1.Meter, y.1.Queue, y.2, y.1.Stake.Waits, y.1.Set)) (fun _ => rfl)), ⟨[1, 2], [.nilcell 1 63 81 (.waits []), .nilcell 1 65 116 (.powers [])]⟩, [.cells 47 97, .cells 47 97, .rows 81, .rows 116]⟩
def zl133a : St → Option LR := L1 67 10 0 zq133a (.exit 0) zq133ae0 (fun s => T_ref_CopyProvider_o_l1 s.1 s.2.1 s.2.2)
theorem zk133a : PieceOk (zy133).env 0 (sub zc133 [0, 1, 0, 1, 1, 1]) zl133a :=
  loop1 (A := za133a) zh133 Facts.mix trivial (k := loopB (sub zc133 [0, 1, 0, 1, 1, 1])) (by kernel_rfl) rfl (by rintro ⟨x0, x1, x2⟩; kernel_rfl)
def T_ref_CopyProvider_o_l2 (x0 : (List Asked)) (x1 : Int) (x2 : Int) (x3 : Provider) (x4 : Provider) (x5 : (List Asked)) : Tr (((List Asked) × Int × Int × Provider × Provider × (List Asked)) ⊕ (Provider × Provider × (List Asked))) :=
  (.ite (decide (x2 < x1))
    (.guard ((0 : Int) ≤ x2 ∧ x2 < ((Sl.len (.asked x0) : Nat) : Int))
    (.guard ((sh_ref_CopyPacket ((x0.getD x2.toNat default).P)).isSome = true)
    (.guard ((Sl.len (.asked x5) + Sl.len (.asked [(⟨(x0.getD x2.toNat default).C, ((sh_ref_CopyPacket ((x0.getD x2.toNat default).P)).getD default)⟩ : Asked)])) * 88 ≤ 140737488355328)
    (.leaf (.inl (x0, x1, IntKind.i64.wrap (x2 + 1), x3, x4, x5 ++ [(⟨(x0.getD x2.toNat default).C, ((sh_ref_CopyPacket ((x0.getD x2.toNat default).P)).getD default)⟩ : Asked)]))))))
    (.leaf (.inr (x3, x4, x5))))
def sh_ref_CopyProvider_o_l2 (x0 : (List Asked)) (x1 : Int) (x2 : Int) (x3 : Provider) (x4 : Provider) (x5 : (List Asked)) : Option (Provider × Provider × (List Asked)) := iter (fun s : (List Asked) × Int × Int × Provider × Provider × (List Asked) => (T_ref_CopyProvider_o_l2 s.1 s.2.1 s.2.2.1 s.2.2.2.1 s.2.2.2.2.1 s.2.2.2.2.2).run) (x0, x1, x2, x3, x4, x5)
def za133b : Ann := ⟨[], [], [], zv133, []⟩
def zq133b : EndD ((List Asked) × Int × Int × Provider × Provider × (List Asked)) := ⟨(LQ.map (LQ.skip (LQ.const (.ptr 0 0)) (LQ.skip (LQ.const (.ptr 1 0)) (LQ.skip (LQ.const (.own 2)) (LQ.seq (Par.q askedP) (LQ.seq (Par.q intP) (LQ.seq (Par.q intP) (LQ.seq (Par.q intP) (LQ.seq (Par.q intP) (LQ.seq (LP.q bankL) (LQ.seq (LP.q validatorsL) (LQ.seq (LP.q (a4L (a6L (LP.one intP)))) (LQ.skip (LQ.const (.own 3)) (LQ.seq (Par.q intP) (LQ.skip (LQ.const (.own 4)) (LQ.seq (LP.q linksL) (LQ.seq (LP.q meterL) (LQ.seq (Par.q askedP) (LQ.seq (LP.q providerL) (LQ.seq (Par.q askedP) (LQ.seq (Par.q waitsP) (Par.q powersP))))))))))))))))))))) (fun x : (List Asked) × Int × Int × Int × Int × Bank × Validators × (A4 (A6 Int)) × Int × Links × Meter × (List Asked) × Provider × (List Asked) × (List Wait) × (List Power) => ((x.1, x.2.1, x.2.2.1, (⟨x.2.2.2.1, x.2.2.2.2.1, (⟨x.2.2.2.2.2.1, x.2.2.2.2.2.2.1, x.2.2.2.2.2.2.2.1, x.2.2.2.2.2.2.2.2.2.2.2.2.2.2.1, x.2.2.2.2.2.2.2.2.1⟩ : Stake), x.2.2.2.2.2.2.2.2.2.2.2.2.2.2.2, x.2.2.2.2.2.2.2.2.2.1, x.2.2.2.2.2.2.2.2.2.2.1, x.2.2.2.2.2.2.2.2.2.2.2.1⟩ : Provider), x.2.2.2.2.2.2.2.2.2.2.2.2.1, x.2.2.2.2.2.2.2.2.2.2.2.2.2.1) : (List Asked) × Int × Int × Provider × Provider × (List Asked))) (fun y => (y.1, y.2.1, y.2.2.1, y.2.2.2.1.Height, y.2.2.2.1.Time, y.2.2.2.1.Stake.Bank, y.2.2.2.1.Stake.Validators, y.2.2.2.1.Stake.Shares, y.2.2.2.1.Stake.Next, y.2.2.2.1.Links, y.2.2.2.1.Meter, y.2.2.2.1.Queue, y.2.2.2.2.1, y.2.2.2.2.2, y.2.2.2.1.Stake.Waits, y.2.2.2.1.Set)) (fun _ => rfl)), ⟨[1, 2, 5, 48, 49, 50], [.nilcell 1 63 81 (.waits []), .nilcell 1 65 116 (.powers []), .nilown 5 83 (.asked []), .pub 48, .nilsl 48 (.asked [])]⟩, [.cells 47 97, .cells 47 97, .rows 83, .rows 81, .rows 116]⟩
def zq133be0 : EndD (Provider × Provider × (List Asked)) := ⟨(LQ.map (LQ.skip (LQ.const (.ptr 0 0)) (LQ.skip (LQ.const (.ptr 1 0)) (LQ.skip (LQ.const (.own 2)) (LQ.seq (Par.q intP) (LQ.seq (Par.q intP) (LQ.seq (LP.q bankL) (LQ.seq (LP.q validatorsL) (LQ.seq (LP.q (a4L (a6L (LP.one intP)))) (LQ.skip (LQ.const (.own 3)) (LQ.seq (Par.q intP) (LQ.skip (LQ.const (.own 4)) (LQ.seq (LP.q linksL) (LQ.seq (LP.q meterL) (LQ.seq (Par.q askedP) (LQ.seq (LP.q providerL) (LQ.seq (Par.q askedP) (LQ.seq (Par.q waitsP) (Par.q powersP)))))))))))))))))) (fun x : Int × Int × Bank × Validators × (A4 (A6 Int)) × Int × Links × Meter × (List Asked) × Provider × (List Asked) × (List Wait) × (List Power) => (((⟨x.1, x.2.1, (⟨x.2.2.1, x.2.2.2.1, x.2.2.2.2.1, x.2.2.2.2.2.2.2.2.2.2.2.1, x.2.2.2.2.2.1⟩ : Stake), x.2.2.2.2.2.2.2.2.2.2.2.2, x.2.2.2.2.2.2.1, x.2.2.2.2.2.2.2.1, x.2.2.2.2.2.2.2.2.1⟩ : Provider), x.2.2.2.2.2.2.2.2.2.1, x.2.2.2.2.2.2.2.2.2.2.1) : Provider × Provider × (List Asked))) (fun y => (y.1.Height, y.1.Time, y.1.Stake.Bank, y.1.Stake.Validators, y.1.Stake.Shares, y.1.Stake.Next, y.1.Links, y.1.Meter, y.1.Queue, y.2.1, y.2.2, y.1.Stake.Waits, y.1.Set)) (fun _ => rfl)), ⟨[1, 2, 5], [.nilcell 1 63 81 (.waits []), .nilcell 1 65 116 (.powers []), .nilown 5 83 (.asked [])]⟩, [.cells 47 97, .cells 47 97, .rows 83, .rows 81, .rows 116]⟩
def zl133b : St → Option LR := L1 67 10 0 zq133b (.exit 2) zq133be0 (fun s => T_ref_CopyProvider_o_l2 s.1 s.2.1 s.2.2.1 s.2.2.2.1 s.2.2.2.2.1 s.2.2.2.2.2)
theorem zk133b : PieceOk (zy133).env 0 (sub zc133 [0, 1, 0, 1, 1, 1, 1, 1]) zl133b :=
  loop1 (A := za133b) zh133 Facts.mix trivial (k := loopB (sub zc133 [0, 1, 0, 1, 1, 1, 1, 1])) (by kernel_rfl) rfl (by rintro ⟨x0, x1, x2, x3, x4, x5⟩; kernel_rfl)
def za133 : Ann := ⟨[([0, 1, 0, 1, 1, 1], zl133a), ([0, 1, 0, 1, 1, 1, 1, 1], zl133b)], [], [], zv133, []⟩
def T_ref_CopyProvider_o (a0 : Provider) : Tr (Provider) :=
  (.bind (sh_ref_CopyStake_o a0.Stake) fun v1 =>
  (.guard ((0 + Sl.len (.powers a0.Set)) * 16 ≤ 140737488355328)
  (.bind (sh_ref_CopyProvider_o_l1 0 ({ (a0 : Provider) with Stake := v1 }) (default : Provider)) fun v2 =>
  (.bind (sh_ref_CopyProvider_o_l2 v2.1.Queue ((v2.1.Queue.length : Nat) : Int) 0 v2.1 v2.2 []) fun v3 =>
  (.leaf ({ (v3.1 : Provider) with Queue := v3.2.2 }))))))
def sh_ref_CopyProvider_o (a0 : Provider) : Option (Provider) := (T_ref_CopyProvider_o a0).run
def zr133 : LQ (Provider) := (Par.q (Par.ofLP providerL))
def qr_ref_CopyProvider_o : LQ (Provider) := (LQ.map (LQ.seq (LQ.agg (LQ.seq (Par.q intP) (LQ.seq (Par.q intP) (LQ.seq (LP.q bankL) (LQ.seq (LP.q validatorsL) (LQ.seq (LP.q (a4L (a6L (LP.one intP)))) (LQ.skip (LQ.const (.own 0)) (LQ.seq (Par.q intP) (LQ.skip (LQ.const (.own 1)) (LQ.seq (LP.q linksL) (LQ.skipR (LP.q meterL) (LQ.const (.own 2))))))))))))) (LQ.seq (Par.q waitsP) (LQ.seq (Par.q powersP) (Par.q askedP)))) (fun x : (Int × Int × Bank × Validators × (A4 (A6 Int)) × Int × Links × Meter) × (List Wait) × (List Power) × (List Asked) => ((⟨x.1.1, x.1.2.1, (⟨x.1.2.2.1, x.1.2.2.2.1, x.1.2.2.2.2.1, x.2.1, x.1.2.2.2.2.2.1⟩ : Stake), x.2.2.1, x.1.2.2.2.2.2.2.1, x.1.2.2.2.2.2.2.2, x.2.2.2⟩ : Provider) : Provider)) (fun y => ((y.Height, y.Time, y.Stake.Bank, y.Stake.Validators, y.Stake.Shares, y.Stake.Next, y.Links, y.Meter), y.Stake.Waits, y.Set, y.Queue)) (fun _ => rfl))
def F_ref_CopyProvider_o : SpecT := specF 0 zr133 1 [] (fun s => T_ref_CopyProvider_o s) default qr_ref_CopyProvider_o 1 [.rows 81, .rows 116, .rows 83]
theorem ok_ref_CopyProvider_o : SpecOk Tryz.prog 11 (F_ref_CopyProvider_o).spec :=
  specF_ok (A := za133) zh133 Facts.mix Tryz.func11 (c := zc133) (by kernel_rfl) (Lc := 0) ⟨zk133a, zk133b, trivial⟩ zr133 1 10 [] (fun s => T_ref_CopyProvider_o s) default qr_ref_CopyProvider_o 1 [.rows 81, .rows 116, .rows 83] [] (by decide) (by kernel_rfl) (by rfl) (by decide) (by decide) (by rfl)
    (by rintro a0; kernel_rfl)

noncomputable def zc134 : Code := Tryz.f15.body.getD .skip
def zv134 : List (List Nat) := [[2, 3], [2, 3, 52], [4], [2, 3, 53], [2, 3, 53, 54], [2, 3, 5, 53], [2, 3, 6, 7, 53], [2, 3, 53, 120], [4], [2, 3, 53], [2, 3, 124, 125], [2, 3, 124, 125, 126], [2, 3, 8, 124, 125], [2, 3, 124, 125, 156], [4], [2, 3, 124, 125], [4]]
noncomputable def zy134 : EnvT := ⟨Tryz.prog, lookT [(56, F_ref_SameStake), (57, F_ref_SamePowers), (14, F_ref_SameNumbers), (58, F_ref_SameLine), (59, F_ref_SamePacket)]⟩
theorem zh134 : (zy134).Ok := lookT_ok ⟨ok_ref_SameStake, ok_ref_SamePowers, ok_ref_SameNumbers, ok_ref_SameLine, ok_ref_SamePacket, trivial⟩
def T_ref_SameProvider_l1 (x0 : Int) (x1 : Provider) (x2 : Provider) : Tr ((Int × Provider × Provider) ⊕ ((Bool) ⊕ (Provider × Provider))) :=
  (.ite (decide (x0 < 2))
    (.guard ((0 : Int) ≤ x0 ∧ (x0 : Int) < 2)
    (.guard ((0 : Int) ≤ x0 ∧ (x0 : Int) < 2)
    (.guard (((((((!((x1.Links.On.get x0) == (x2.Links.On.get x0))) || (!((x1.Links.Gone.get x0) == (x2.Links.Gone.get x0)))) || ((x1.Links.Base.get x0) != (x2.Links.Base.get x0))) || (!((x1.Links.Fresh.get x0) == (x2.Links.Fresh.get x0)))) || (!(eqHead (⟨x1.Links.SHeight.get x0, x1.Links.STime.get x0, x1.Links.SSaid.get x0, x1.Links.SGot.get x0⟩ : Head) (⟨x2.Links.SHeight.get x0, x2.Links.STime.get x0, x2.Links.SSaid.get x0, x2.Links.SGot.get x0⟩ : Head)))) = false → ((sh_ref_SamePowers (x1.Links.Told.get x0) (x2.Links.Told.get x0)).isSome = true) ∧ True))
    (.guard ((((((((!((x1.Links.On.get x0) == (x2.Links.On.get x0))) || (!((x1.Links.Gone.get x0) == (x2.Links.Gone.get x0)))) || ((x1.Links.Base.get x0) != (x2.Links.Base.get x0))) || (!((x1.Links.Fresh.get x0) == (x2.Links.Fresh.get x0)))) || (!(eqHead (⟨x1.Links.SHeight.get x0, x1.Links.STime.get x0, x1.Links.SSaid.get x0, x1.Links.SGot.get x0⟩ : Head) (⟨x2.Links.SHeight.get x0, x2.Links.STime.get x0, x2.Links.SSaid.get x0, x2.Links.SGot.get x0⟩ : Head)))) || (!((sh_ref_SamePowers (x1.Links.Told.get x0) (x2.Links.Told.get x0)).getD default))) = false → ((sh_ref_SameNumbers (x1.Links.Done.get x0) (x2.Links.Done.get x0)).isSome = true) ∧ True))
    (.guard (((((((((!((x1.Links.On.get x0) == (x2.Links.On.get x0))) || (!((x1.Links.Gone.get x0) == (x2.Links.Gone.get x0)))) || ((x1.Links.Base.get x0) != (x2.Links.Base.get x0))) || (!((x1.Links.Fresh.get x0) == (x2.Links.Fresh.get x0)))) || (!(eqHead (⟨x1.Links.SHeight.get x0, x1.Links.STime.get x0, x1.Links.SSaid.get x0, x1.Links.SGot.get x0⟩ : Head) (⟨x2.Links.SHeight.get x0, x2.Links.STime.get x0, x2.Links.SSaid.get x0, x2.Links.SGot.get x0⟩ : Head)))) || (!((sh_ref_SamePowers (x1.Links.Told.get x0) (x2.Links.Told.get x0)).getD default))) || (!((sh_ref_SameNumbers (x1.Links.Done.get x0) (x2.Links.Done.get x0)).getD default))) = false → ((sh_ref_SameLine (⟨x1.Links.Said.get x0, x1.Links.Due.get x0, x1.Links.Got.get x0, x1.Links.Closed.get x0⟩ : Line) (⟨x2.Links.Said.get x0, x2.Links.Due.get x0, x2.Links.Got.get x0, x2.Links.Closed.get x0⟩ : Line)).isSome = true) ∧ True))
    (.ite ((((((((!((x1.Links.On.get x0) == (x2.Links.On.get x0))) || (!((x1.Links.Gone.get x0) == (x2.Links.Gone.get x0)))) || ((x1.Links.Base.get x0) != (x2.Links.Base.get x0))) || (!((x1.Links.Fresh.get x0) == (x2.Links.Fresh.get x0)))) || (!(eqHead (⟨x1.Links.SHeight.get x0, x1.Links.STime.get x0, x1.Links.SSaid.get x0, x1.Links.SGot.get x0⟩ : Head) (⟨x2.Links.SHeight.get x0, x2.Links.STime.get x0, x2.Links.SSaid.get x0, x2.Links.SGot.get x0⟩ : Head)))) || (!((sh_ref_SamePowers (x1.Links.Told.get x0) (x2.Links.Told.get x0)).getD default))) || (!((sh_ref_SameNumbers (x1.Links.Done.get x0) (x2.Links.Done.get x0)).getD default))) || (!((sh_ref_SameLine (⟨x1.Links.Said.get x0, x1.Links.Due.get x0, x1.Links.Got.get x0, x1.Links.Closed.get x0⟩ : Line) (⟨x2.Links.Said.get x0, x2.Links.Due.get x0, x2.Links.Got.get x0, x2.Links.Closed.get x0⟩ : Line)).getD default)))
      (.leaf (.inr (.inl false)))
      (.leaf (.inl (IntKind.i64.wrap (x0 + 1), x1, x2)))))))))
    (.leaf (.inr (.inr (x1, x2)))))
def sh_ref_SameProvider_l1 (x0 : Int) (x1 : Provider) (x2 : Provider) : Option ((Bool) ⊕ (Provider × Provider)) := iter (fun s : Int × Provider × Provider => (T_ref_SameProvider_l1 s.1 s.2.1 s.2.2).run) (x0, x1, x2)
def za134a : Ann := ⟨[], [], [], zv134, []⟩
def zq134a : EndD (Int × Provider × Provider) := ⟨(LQ.skip (LQ.const (.ptr 0 0)) (LQ.skip (LQ.const (.ptr 1 0)) (LQ.seq (Par.q intP) (LQ.seq (LP.q providerL) (LP.q providerL))))), ⟨[2, 3, 53], []⟩, [.cells 47 97, .cells 47 97]⟩
def zq134ae0 : EndD (Bool) := ⟨(Par.q boolP), ⟨[4], []⟩, []⟩
def zq134ae1 : EndD (Provider × Provider) := ⟨(LQ.skip (LQ.const (.ptr 0 0)) (LQ.skip (LQ.const (.ptr 1 0)) (LQ.seq (LP.q providerL) (LP.q providerL)))), ⟨[2, 3], []⟩, [.cells 47 97, .cells 47 97]⟩
def zl134a : St → Option LR := L2 158 6 0 zq134a .ret zq134ae0 (.exit 0) zq134ae1 (fun s => T_ref_SameProvider_l1 s.1 s.2.1 s.2.2)
theorem zk134a : PieceOk (zy134).env 0 (sub zc134 [0, 1, 0, 1, 1]) zl134a :=
  loop2 (A := za134a) zh134 Facts.mix trivial (k := loopB (sub zc134 [0, 1, 0, 1, 1])) (by kernel_rfl) rfl rfl (by rintro ⟨x0, x1, x2⟩; kernel_rfl)
def T_ref_SameProvider_l2 (x0 : Int) (x1 : Int) (x2 : Provider) (x3 : Provider) : Tr ((Int × Int × Provider × Provider) ⊕ ((Bool) ⊕ (Unit))) :=
  (.ite (decide (x1 < x0))
    (.guard ((0 : Int) ≤ x1 ∧ x1 < ((Sl.len (.asked x2.Queue) : Nat) : Int))
    (.guard ((0 : Int) ≤ x1 ∧ x1 < ((Sl.len (.asked x3.Queue) : Nat) : Int))
    (.guard (((((x2.Queue.getD x1.toNat default).C) != ((x3.Queue.getD x1.toNat default).C)) = false → ((0 : Int) ≤ x1 ∧ x1 < ((Sl.len (.asked x2.Queue) : Nat) : Int)) ∧ True))
    (.guard (((((x2.Queue.getD x1.toNat default).C) != ((x3.Queue.getD x1.toNat default).C)) = false → ((0 : Int) ≤ x1 ∧ x1 < ((Sl.len (.asked x3.Queue) : Nat) : Int)) ∧ True))
    (.guard (((((x2.Queue.getD x1.toNat default).C) != ((x3.Queue.getD x1.toNat default).C)) = false → ((sh_ref_SamePacket ((x2.Queue.getD x1.toNat default).P) ((x3.Queue.getD x1.toNat default).P)).isSome = true) ∧ True))
    (.ite ((((x2.Queue.getD x1.toNat default).C) != ((x3.Queue.getD x1.toNat default).C)) || (!((sh_ref_SamePacket ((x2.Queue.getD x1.toNat default).P) ((x3.Queue.getD x1.toNat default).P)).getD default)))
      (.leaf (.inr (.inl false)))
      (.leaf (.inl (x0, IntKind.i64.wrap (x1 + 1), x2, x3)))))))))
    (.leaf (.inr (.inr ()))))
def sh_ref_SameProvider_l2 (x0 : Int) (x1 : Int) (x2 : Provider) (x3 : Provider) : Option ((Bool) ⊕ (Unit)) := iter (fun s : Int × Int × Provider × Provider => (T_ref_SameProvider_l2 s.1 s.2.1 s.2.2.1 s.2.2.2).run) (x0, x1, x2, x3)
def za134b : Ann := ⟨[], [], [], zv134, []⟩
def zq134b : EndD (Int × Int × Provider × Provider) := ⟨(LQ.skip (LQ.const (.ptr 0 0)) (LQ.skip (LQ.const (.ptr 1 0)) (LQ.seq (Par.q intP) (LQ.seq (Par.q intP) (LQ.seq (LP.q providerL) (LP.q providerL)))))), ⟨[2, 3, 124, 125], []⟩, [.cells 47 97, .cells 47 97]⟩
def zq134be0 : EndD (Bool) := ⟨(Par.q boolP), ⟨[4], []⟩, []⟩
def zq134be1 : EndD (Unit) := ⟨LQ.nil, ⟨[], []⟩, []⟩
def zl134b : St → Option LR := L2 158 6 0 zq134b .ret zq134be0 (.exit 2) zq134be1 (fun s => T_ref_SameProvider_l2 s.1 s.2.1 s.2.2.1 s.2.2.2)
theorem zk134b : PieceOk (zy134).env 0 (sub zc134 [0, 1, 0, 1, 1, 1]) zl134b :=
  loop2 (A := za134b) zh134 Facts.mix trivial (k := loopB (sub zc134 [0, 1, 0, 1, 1, 1])) (by kernel_rfl) rfl rfl (by rintro ⟨x0, x1, x2, x3⟩; kernel_rfl)
def za134 : Ann := ⟨[([0, 1, 0, 1, 1], zl134a), ([0, 1, 0, 1, 1, 1], zl134b)], [], [], zv134, []⟩
def T_ref_SameProvider (a0 : Provider) (a1 : Provider) : Tr (Bool) :=
  (.guard ((((a0.Height != a1.Height) || (a0.Time != a1.Time)) = false → ((sh_ref_SameStake a0.Stake a1.Stake).isSome = true) ∧ True))
  (.guard (((((a0.Height != a1.Height) || (a0.Time != a1.Time)) || (!((sh_ref_SameStake a0.Stake a1.Stake).getD default))) = false → ((sh_ref_SamePowers a0.Set a1.Set).isSome = true) ∧ True))
  (.ite ((((((a0.Height != a1.Height) || (a0.Time != a1.Time)) || (!((sh_ref_SameStake a0.Stake a1.Stake).getD default))) || (!((sh_ref_SamePowers a0.Set a1.Set).getD default))) || (!((a0.Meter.Left == a1.Meter.Left) && ((a0.Meter.Next == a1.Meter.Next) && true)))) || (((a0.Queue.length : Nat) : Int) != ((a1.Queue.length : Nat) : Int)))
    (.leaf false)
    (.two (sh_ref_SameProvider_l1 0 a0 a1) (fun v1 =>
      (.leaf v1)) (fun v2 =>
      (.two (sh_ref_SameProvider_l2 ((v2.1.Queue.length : Nat) : Int) 0 v2.1 v2.2) (fun v3 =>
        (.leaf v3)) (fun v4 =>
        (.leaf true))))))))
def sh_ref_SameProvider (a0 : Provider) (a1 : Provider) : Option (Bool) := (T_ref_SameProvider a0 a1).run
def zr134 : LQ (Provider × Provider) := (LQ.seq (Par.q (Par.ofLP providerL)) (Par.q (Par.ofLP providerL)))
def qr_ref_SameProvider : LQ (Bool) := (Par.q boolP)
def F_ref_SameProvider : SpecT := specF 0 zr134 2 [] (fun s => T_ref_SameProvider s.1 s.2) default qr_ref_SameProvider 1 []
theorem ok_ref_SameProvider : SpecOk Tryz.prog 15 (F_ref_SameProvider).spec :=
  specF_ok (A := za134) zh134 Facts.mix Tryz.func15 (c := zc134) (by kernel_rfl) (Lc := 0) ⟨zk134a, zk134b, trivial⟩ zr134 2 6 [] (fun s => T_ref_SameProvider s.1 s.2) default qr_ref_SameProvider 1 [] [] (by decide) (by kernel_rfl) (by rfl) (by decide) (by decide) (by rfl)
    (by rintro ⟨a0, a1⟩; kernel_rfl)

noncomputable def zc135 : Code := Tryz.f35.body.getD .skip
def zv135 : List (List Nat) := [[1], [1, 39], [2], [1, 41, 42], [1, 41, 42, 43], [1, 4, 41, 42], [1, 4, 5, 41, 42], [1, 4, 5, 41, 42, 46, 47, 48], [1, 4, 5, 41, 42, 46, 47, 48, 49], [1, 4, 5, 7, 41, 42, 46, 47, 48], [1, 4, 7, 41, 42, 46, 47, 48, 58], [2], [1, 4, 5, 41, 42, 46, 47, 48], [1, 4, 5, 41, 42, 46, 47, 48], [1, 41, 42, 90], [2], [1, 41, 42], [1, 93, 94, 95], [1, 93, 94, 95, 96], [1, 9, 93, 94, 95], [1, 93, 94, 95, 127], [2], [1, 93, 94, 95], [2]]
noncomputable def zy135 : EnvT := ⟨Tryz.prog, lookT [(87, F_ref_GoodStake), (88, F_ref_isSet), (89, F_ref_GoodLine), (90, F_ref_GoodPacket)]⟩
theorem zh135 : (zy135).Ok := lookT_ok ⟨ok_ref_GoodStake, ok_ref_isSet, ok_ref_GoodLine, ok_ref_GoodPacket, trivial⟩
def T_ref_GoodProvider_l1 (x0 : Int) (x1 : Links) (x2 : Int) (x3 : (List Int)) (x4 : Int) (x5 : Int) (x6 : Provider) (x7 : Link) : Tr ((Int × Links × Int × (List Int) × Int × Int × Provider × Link) ⊕ ((Bool) ⊕ (Links × Int × Provider × Link))) :=
  (.ite (decide (x5 < x4))
    (.guard ((0 : Int) ≤ x5 ∧ x5 < ((Sl.len (.ints x3) : Nat) : Int))
    (.ite ((decide ((x3.getD x5.toNat 0) ≤ x0)) || (decide ((x3.getD x5.toNat 0) > 5)))
      (.leaf (.inr (.inl false)))
      (.leaf (.inl (x3.getD x5.toNat 0, x1, x2, x3, x4, IntKind.i64.wrap (x5 + 1), x6, x7)))))
    (.leaf (.inr (.inr (x1, x2, x6, x7)))))
def sh_ref_GoodProvider_l1 (x0 : Int) (x1 : Links) (x2 : Int) (x3 : (List Int)) (x4 : Int) (x5 : Int) (x6 : Provider) (x7 : Link) : Option ((Bool) ⊕ (Links × Int × Provider × Link)) := iter (fun s : Int × Links × Int × (List Int) × Int × Int × Provider × Link => (T_ref_GoodProvider_l1 s.1 s.2.1 s.2.2.1 s.2.2.2.1 s.2.2.2.2.1 s.2.2.2.2.2.1 s.2.2.2.2.2.2.1 s.2.2.2.2.2.2.2).run) (x0, x1, x2, x3, x4, x5, x6, x7)
def za135a : Ann := ⟨[], [], [], zv135, []⟩
def zq135a : EndD (Int × Links × Int × (List Int) × Int × Int × Provider × Link) := ⟨(LQ.skip (LQ.const (.ptr 0 0)) (LQ.skip (LQ.const (.ptr 1 0)) (LQ.seq (Par.q intP) (LQ.seq (Par.q (Par.ofLP linksL)) (LQ.seq (Par.q intP) (LQ.seq (Par.q intsP) (LQ.seq (Par.q intP) (LQ.seq (Par.q intP) (LQ.seq (LP.q providerL) (LP.q linkL)))))))))), ⟨[1, 4, 5, 41, 42, 46, 47, 48], [.pub 46, .nilsl 46 (.ints [])]⟩, [.cells 47 97, .cells 41 14]⟩
def zq135ae0 : EndD (Bool) := ⟨(Par.q boolP), ⟨[2], []⟩, []⟩
def zq135ae1 : EndD (Links × Int × Provider × Link) := ⟨(LQ.skip (LQ.const (.ptr 0 0)) (LQ.skip (LQ.const (.ptr 1 0)) (LQ.seq (Par.q (Par.ofLP linksL)) (LQ.seq (Par.q intP) (LQ.seq (LP.q providerL) (LP.q linkL)))))), ⟨[1, 4, 41, 42], []⟩, [.cells 47 97, .cells 41 14]⟩
def zl135a : St → Option LR := L2 129 4 0 zq135a .ret zq135ae0 (.exit 2) zq135ae1 (fun s => T_ref_GoodProvider_l1 s.1 s.2.1 s.2.2.1 s.2.2.2.1 s.2.2.2.2.1 s.2.2.2.2.2.1 s.2.2.2.2.2.2.1 s.2.2.2.2.2.2.2)
theorem zk135a : PieceOk (zy135).env 0 (sub zc135 [0, 1, 0, 1, 1, 0, 0, 1, 1, 0, 0, 1, 0, 1, 1]) zl135a :=
  loop2 (A := za135a) zh135 Facts.mix trivial (k := loopB (sub zc135 [0, 1, 0, 1, 1, 0, 0, 1, 1, 0, 0, 1, 0, 1, 1])) (by kernel_rfl) rfl rfl (by rintro ⟨x0, x1, x2, x3, x4, x5, x6, x7⟩; kernel_rfl)
def T_ref_GoodProvider_l2 (x0 : Links) (x1 : Int) (x2 : Provider) : Tr ((Links × Int × Provider) ⊕ ((Bool) ⊕ (Provider))) :=
  (.ite (decide (x1 < 2))
    (.guard ((0 : Int) ≤ x1 ∧ (x1 : Int) < 2)
    (.two (sh_ref_GoodProvider_l1 (-1) x0 x1 (x0.Done.get x1) (((x0.Done.get x1).length : Nat) : Int) 0 x2 (⟨x0.On.get x1, x0.Gone.get x1, x0.Base.get x1, x0.Told.get x1, x0.Fresh.get x1, x0.Done.get x1, (⟨x0.Said.get x1, x0.Due.get x1, x0.Got.get x1, x0.Closed.get x1⟩ : Line), (⟨x0.SHeight.get x1, x0.STime.get x1, x0.SSaid.get x1, x0.SGot.get x1⟩ : Head)⟩ : Link)) (fun v2 =>
      (.leaf (.inr (.inl v2)))) (fun v3 =>
      (.guard (((((v3.2.2.2.On && v3.2.2.2.Gone) || (decide (v3.2.2.2.Base < 0))) || (decide (v3.2.2.2.Base > v3.2.2.1.Height))) = false → ((sh_ref_isSet v3.2.2.2.Told).isSome = true) ∧ True))
      (.guard ((((((v3.2.2.2.On && v3.2.2.2.Gone) || (decide (v3.2.2.2.Base < 0))) || (decide (v3.2.2.2.Base > v3.2.2.1.Height))) || (!((sh_ref_isSet v3.2.2.2.Told).getD default))) = false → ((sh_ref_GoodLine v3.2.2.2.Out).isSome = true) ∧ True))
      (.ite (((((v3.2.2.2.On && v3.2.2.2.Gone) || (decide (v3.2.2.2.Base < 0))) || (decide (v3.2.2.2.Base > v3.2.2.1.Height))) || (!((sh_ref_isSet v3.2.2.2.Told).getD default))) || (!((sh_ref_GoodLine v3.2.2.2.Out).getD default)))
        (.leaf (.inr (.inl false)))
        (.leaf (.inl (v3.1, IntKind.i64.wrap (v3.2.1 + 1), v3.2.2.1)))))))))
    (.leaf (.inr (.inr x2))))
def sh_ref_GoodProvider_l2 (x0 : Links) (x1 : Int) (x2 : Provider) : Option ((Bool) ⊕ (Provider)) := iter (fun s : Links × Int × Provider => (T_ref_GoodProvider_l2 s.1 s.2.1 s.2.2).run) (x0, x1, x2)
def za135b : Ann := ⟨[([0, 1, 0, 1, 1, 0, 0, 1, 1, 0, 0, 1, 0, 1, 1], zl135a)], [], [], zv135, []⟩
def zq135b : EndD (Links × Int × Provider) := ⟨(LQ.skip (LQ.const (.ptr 0 0)) (LQ.seq (Par.q (Par.ofLP linksL)) (LQ.seq (Par.q intP) (LP.q providerL)))), ⟨[1, 41, 42], []⟩, [.cells 47 97]⟩
def zq135be0 : EndD (Bool) := ⟨(Par.q boolP), ⟨[2], []⟩, []⟩
def zq135be1 : EndD (Provider) := ⟨(LQ.skip (LQ.const (.ptr 0 0)) (LP.q providerL)), ⟨[1], []⟩, [.cells 47 97]⟩
def zl135b : St → Option LR := L2 129 4 0 zq135b .ret zq135be0 (.exit 0) zq135be1 (fun s => T_ref_GoodProvider_l2 s.1 s.2.1 s.2.2)
theorem zk135b : PieceOk (zy135).env 0 (sub zc135 [0, 1, 0, 1, 1]) zl135b :=
  loop2 (A := za135b) zh135 Facts.mix ⟨zk135a, trivial⟩ (k := loopB (sub zc135 [0, 1, 0, 1, 1])) (by kernel_rfl) rfl rfl (by rintro ⟨x0, x1, x2⟩; kernel_rfl)
def T_ref_GoodProvider_l3 (x0 : (List Asked)) (x1 : Int) (x2 : Int) (x3 : Provider) : Tr (((List Asked) × Int × Int × Provider) ⊕ ((Bool) ⊕ (Unit))) :=
  (.ite (decide (x2 < x1))
    (.guard ((0 : Int) ≤ x2 ∧ x2 < ((Sl.len (.asked x0) : Nat) : Int))
    (.guard ((((decide (((x0.getD x2.toNat default).C) < 0)) || (decide (((x0.getD x2.toNat default).C) > 1))) = false → ((0 : Int) ≤ ((x0.getD x2.toNat default).C) ∧ (((x0.getD x2.toNat default).C) : Int) < 2) ∧ True))
    (.guard ((((((decide (((x0.getD x2.toNat default).C) < 0)) || (decide (((x0.getD x2.toNat default).C) > 1))) || (!(x3.Links.On.get ((x0.getD x2.toNat default).C)))) || ((((x0.getD x2.toNat default).P).Kind) == 1)) = false → ((sh_ref_GoodPacket ((x0.getD x2.toNat default).P)).isSome = true) ∧ True))
    (.ite (((((decide (((x0.getD x2.toNat default).C) < 0)) || (decide (((x0.getD x2.toNat default).C) > 1))) || (!(x3.Links.On.get ((x0.getD x2.toNat default).C)))) || ((((x0.getD x2.toNat default).P).Kind) == 1)) || (((sh_ref_GoodPacket ((x0.getD x2.toNat default).P)).getD default) != 0))
      (.leaf (.inr (.inl false)))
      (.leaf (.inl (x0, x1, IntKind.i64.wrap (x2 + 1), x3)))))))
    (.leaf (.inr (.inr ()))))
def sh_ref_GoodProvider_l3 (x0 : (List Asked)) (x1 : Int) (x2 : Int) (x3 : Provider) : Option ((Bool) ⊕ (Unit)) := iter (fun s : (List Asked) × Int × Int × Provider => (T_ref_GoodProvider_l3 s.1 s.2.1 s.2.2.1 s.2.2.2).run) (x0, x1, x2, x3)
def za135c : Ann := ⟨[], [], [], zv135, []⟩
def zq135c : EndD ((List Asked) × Int × Int × Provider) := ⟨(LQ.skip (LQ.const (.ptr 0 0)) (LQ.seq (Par.q askedP) (LQ.seq (Par.q intP) (LQ.seq (Par.q intP) (LP.q providerL))))), ⟨[1, 93, 94, 95], [.pub 93, .nilsl 93 (.asked [])]⟩, [.cells 47 97]⟩
def zq135ce0 : EndD (Bool) := ⟨(Par.q boolP), ⟨[2], []⟩, []⟩
def zq135ce1 : EndD (Unit) := ⟨LQ.nil, ⟨[], []⟩, []⟩
def zl135c : St → Option LR := L2 129 4 0 zq135c .ret zq135ce0 (.exit 4) zq135ce1 (fun s => T_ref_GoodProvider_l3 s.1 s.2.1 s.2.2.1 s.2.2.2)
theorem zk135c : PieceOk (zy135).env 0 (sub zc135 [0, 1, 0, 1, 1, 1]) zl135c :=
  loop2 (A := za135c) zh135 Facts.mix trivial (k := loopB (sub zc135 [0, 1, 0, 1, 1, 1])) (by kernel_rfl) rfl rfl (by rintro ⟨x0, x1, x2, x3⟩; kernel_rfl)
def za135 : Ann := ⟨[([0, 1, 0, 1, 1], zl135b), ([0, 1, 0, 1, 1, 1], zl135c)], [], [], zv135, []⟩
def T_ref_GoodProvider (a0 : Provider) : Tr (Bool) :=
  (.bind (sh_ref_GoodStake a0.Stake) fun v1 =>
  (.guard (((((((!v1) || (decide (a0.Height < 0))) || (decide (a0.Height > 1099511627775))) || (decide (a0.Time < 0))) || (decide (a0.Time > 1099511627776))) = false → ((sh_ref_isSet a0.Set).isSome = true) ∧ True))
  (.ite ((((((!v1) || (decide (a0.Height < 0))) || (decide (a0.Height > 1099511627775))) || (decide (a0.Time < 0))) || (decide (a0.Time > 1099511627776))) || (!((sh_ref_isSet a0.Set).getD default)))
    (.leaf false)
    (.two (sh_ref_GoodProvider_l2 a0.Links 0 a0) (fun v4 =>
      (.leaf v4)) (fun v5 =>
      (.two (sh_ref_GoodProvider_l3 v5.Queue ((v5.Queue.length : Nat) : Int) 0 v5) (fun v6 =>
        (.leaf v6)) (fun v7 =>
        (.leaf true))))))))
def sh_ref_GoodProvider (a0 : Provider) : Option (Bool) := (T_ref_GoodProvider a0).run
def zr135 : LQ (Provider) := (Par.q (Par.ofLP providerL))
def qr_ref_GoodProvider : LQ (Bool) := (Par.q boolP)
def F_ref_GoodProvider : SpecT := specF 0 zr135 1 [] (fun s => T_ref_GoodProvider s) default qr_ref_GoodProvider 1 []
theorem ok_ref_GoodProvider : SpecOk Tryz.prog 35 (F_ref_GoodProvider).spec :=
  specF_ok (A := za135) zh135 Facts.mix Tryz.func35 (c := zc135) (by kernel_rfl) (Lc := 0) ⟨zk135b, zk135c, trivial⟩ zr135 1 4 [] (fun s => T_ref_GoodProvider s) default qr_ref_GoodProvider 1 [] [] (by decide) (by kernel_rfl) (by rfl) (by decide) (by decide) (by rfl)
    (by rintro a0; kernel_rfl)

noncomputable def zc139 : Code := Tryz.f30.body.getD .skip
def zv139 : List (List Nat) := [[1, 2, 4], [1, 2, 4, 11], [4, 5], [1, 2, 4, 18], [4, 5], [1, 2, 4, 24], [4, 5], [1, 2, 4, 30], [4, 5], [1, 2, 4, 40], [4, 5], [1, 2, 4, 6], [1, 2, 4, 6], [1, 2, 4, 6, 55, 56, 57], [1, 2, 4, 6, 55, 56, 57, 58], [1, 2, 4, 6, 7, 8, 55, 56, 57], [1, 2, 4, 6, 7, 8, 55, 56, 57, 66], [1, 2, 4, 6, 55, 56, 57], [1, 2, 4, 6, 55, 56, 57], [4, 5]]
noncomputable def zy139 : EnvT := ⟨Tryz.prog, lookT [(35, F_ref_GoodProvider), (11, F_ref_CopyProvider_o)]⟩
theorem zh139 : (zy139).Ok := lookT_ok ⟨ok_ref_GoodProvider, ok_ref_CopyProvider_o, trivial⟩
def T_ref_Begin_l1 (x0 : Int) (x1 : (List Wait)) (x2 : Int) (x3 : Int) (x4 : Provider) (x5 : Provider) (x6 : Provider) : Tr ((Int × (List Wait) × Int × Int × Provider × Provider × Provider) ⊕ (Provider × Provider)) :=
  (.ite (decide (x3 < x2))
    (.guard ((0 : Int) ≤ x3 ∧ x3 < ((Sl.len (.waits x1) : Nat) : Int))
    (.ite (decide (((x1.getD x3.toNat default).Height) > x4.Height))
      (.guard ((0 : Int) ≤ x3 ∧ x3 < ((Sl.len (.waits x6.Stake.Waits) : Nat) : Int))
      (.guard ((0 : Int) ≤ x0 ∧ (x0 : Int) < 2)
      (.guard ((0 : Int) ≤ x0 ∧ (x0 : Int) < 2)
      (.leaf (.inl (x0, x1, x2, IntKind.i64.wrap (x3 + 1), x4, x5, { (x6 : Provider) with Stake := { (x6.Stake : Stake) with Waits := x6.Stake.Waits.set x3.toNat ({ ((x6.Stake.Waits.getD x3.toNat default) : Wait) with h0 := if x0 = 0 then (x1.getD x3.toNat default).Height else (x6.Stake.Waits.getD x3.toNat default).h0, h1 := if x0 = 1 then (x1.getD x3.toNat default).Height else (x6.Stake.Waits.getD x3.toNat default).h1 }) }, Links := { (x6.Links : Links) with Fresh := (x6.Links.Fresh.set x0 true) } }))))))
      (.leaf (.inl (x0, x1, x2, IntKind.i64.wrap (x3 + 1), x4, x5, x6)))))
    (.leaf (.inr (x5, x6))))
def sh_ref_Begin_l1 (x0 : Int) (x1 : (List Wait)) (x2 : Int) (x3 : Int) (x4 : Provider) (x5 : Provider) (x6 : Provider) : Option (Provider × Provider) := iter (fun s : Int × (List Wait) × Int × Int × Provider × Provider × Provider => (T_ref_Begin_l1 s.1 s.2.1 s.2.2.1 s.2.2.2.1 s.2.2.2.2.1 s.2.2.2.2.2.1 s.2.2.2.2.2.2).run) (x0, x1, x2, x3, x4, x5, x6)
def za139a : Ann := ⟨[], [], [], zv139, []⟩
def zq139a : EndD (Int × (List Wait) × Int × Int × Provider × Provider × Provider) := ⟨(LQ.map (LQ.seq (Par.q intP) (LQ.skip (LQ.const (.ptr 0 0)) (LQ.skip (LQ.const (.ptr 1 0)) (LQ.skip (LQ.const (.ptr 2 0)) (LQ.seq (Par.q waitsP) (LQ.seq (Par.q intP) (LQ.seq (Par.q intP) (LQ.seq (LP.q providerL) (LQ.seq (LP.q providerL) (LQ.seq (Par.q intP) (LQ.seq (Par.q intP) (LQ.seq (LP.q bankL) (LQ.seq (LP.q validatorsL) (LQ.seq (LP.q (a4L (a6L (LP.one intP)))) (LQ.skip (LQ.const (.own 3)) (LQ.seq (Par.q intP) (LQ.skip (LQ.const (.own 4)) (LQ.seq (LP.q linksL) (LQ.seq (LP.q meterL) (LQ.skip (LQ.const (.own 5)) (LQ.seq (Par.q waitsP) (LQ.seq (Par.q powersP) (Par.q askedP))))))))))))))))))))))) (fun x : Int × (List Wait) × Int × Int × Provider × Provider × Int × Int × Bank × Validators × (A4 (A6 Int)) × Int × Links × Meter × (List Wait) × (List Power) × (List Asked) => ((x.1, x.2.1, x.2.2.1, x.2.2.2.1, x.2.2.2.2.1, x.2.2.2.2.2.1, (⟨x.2.2.2.2.2.2.1, x.2.2.2.2.2.2.2.1, (⟨x.2.2.2.2.2.2.2.2.1, x.2.2.2.2.2.2.2.2.2.1, x.2.2.2.2.2.2.2.2.2.2.1, x.2.2.2.2.2.2.2.2.2.2.2.2.2.2.1, x.2.2.2.2.2.2.2.2.2.2.2.1⟩ : Stake), x.2.2.2.2.2.2.2.2.2.2.2.2.2.2.2.1, x.2.2.2.2.2.2.2.2.2.2.2.2.1, x.2.2.2.2.2.2.2.2.2.2.2.2.2.1, x.2.2.2.2.2.2.2.2.2.2.2.2.2.2.2.2⟩ : Provider)) : Int × (List Wait) × Int × Int × Provider × Provider × Provider)) (fun y => (y.1, y.2.1, y.2.2.1, y.2.2.2.1, y.2.2.2.2.1, y.2.2.2.2.2.1, y.2.2.2.2.2.2.Height, y.2.2.2.2.2.2.Time, y.2.2.2.2.2.2.Stake.Bank, y.2.2.2.2.2.2.Stake.Validators, y.2.2.2.2.2.2.Stake.Shares, y.2.2.2.2.2.2.Stake.Next, y.2.2.2.2.2.2.Links, y.2.2.2.2.2.2.Meter, y.2.2.2.2.2.2.Stake.Waits, y.2.2.2.2.2.2.Set, y.2.2.2.2.2.2.Queue)) (fun _ => rfl)), ⟨[1, 2, 4, 6, 55, 56, 57], [.nilcell 6 63 81 (.waits []), .nilcell 6 65 116 (.powers []), .nilcell 6 96 83 (.asked []), .pub 55, .nilsl 55 (.waits [])]⟩, [.cells 47 97, .cells 47 97, .cells 47 97, .rows 81, .rows 116, .rows 83]⟩
def zq139ae0 : EndD (Provider × Provider) := ⟨(LQ.map (LQ.skip (LQ.const (.ptr 0 0)) (LQ.skip (LQ.const (.ptr 1 0)) (LQ.seq (LP.q providerL) (LQ.seq (Par.q intP) (LQ.seq (Par.q intP) (LQ.seq (LP.q bankL) (LQ.seq (LP.q validatorsL) (LQ.seq (LP.q (a4L (a6L (LP.one intP)))) (LQ.skip (LQ.const (.own 2)) (LQ.seq (Par.q intP) (LQ.skip (LQ.const (.own 3)) (LQ.seq (LP.q linksL) (LQ.seq (LP.q meterL) (LQ.skip (LQ.const (.own 4)) (LQ.seq (Par.q waitsP) (LQ.seq (Par.q powersP) (Par.q askedP))))))))))))))))) (fun x : Provider × Int × Int × Bank × Validators × (A4 (A6 Int)) × Int × Links × Meter × (List Wait) × (List Power) × (List Asked) => ((x.1, (⟨x.2.1, x.2.2.1, (⟨x.2.2.2.1, x.2.2.2.2.1, x.2.2.2.2.2.1, x.2.2.2.2.2.2.2.2.2.1, x.2.2.2.2.2.2.1⟩ : Stake), x.2.2.2.2.2.2.2.2.2.2.1, x.2.2.2.2.2.2.2.1, x.2.2.2.2.2.2.2.2.1, x.2.2.2.2.2.2.2.2.2.2.2⟩ : Provider)) : Provider × Provider)) (fun y => (y.1, y.2.Height, y.2.Time, y.2.Stake.Bank, y.2.Stake.Validators, y.2.Stake.Shares, y.2.Stake.Next, y.2.Links, y.2.Meter, y.2.Stake.Waits, y.2.Set, y.2.Queue)) (fun _ => rfl)), ⟨[4, 6], [.nilcell 6 63 81 (.waits []), .nilcell 6 65 116 (.powers []), .nilcell 6 96 83 (.asked [])]⟩, [.cells 47 97, .cells 47 97, .rows 81, .rows 116, .rows 83]⟩
def zl139a : St → Option LR := L1 83 9 0 zq139a (.exit 0) zq139ae0 (fun s => T_ref_Begin_l1 s.1 s.2.1 s.2.2.1 s.2.2.2.1 s.2.2.2.2.1 s.2.2.2.2.2.1 s.2.2.2.2.2.2)
theorem zk139a : PieceOk (zy139).env 0 (sub zc139 [0, 1, 0, 1, 1, 1, 1, 1, 1, 1, 1]) zl139a :=
  loop1 (A := za139a) zh139 Facts.mix trivial (k := loopB (sub zc139 [0, 1, 0, 1, 1, 1, 1, 1, 1, 1, 1])) (by kernel_rfl) rfl (by rintro ⟨x0, x1, x2, x3, x4, x5, x6⟩; kernel_rfl)
def za139 : Ann := ⟨[([0, 1, 0, 1, 1, 1, 1, 1, 1, 1, 1], zl139a)], [], [], zv139, []⟩
def T_ref_Begin (a0 : Provider) (a1 : Int) : Tr (Provider × Int) :=
  (.bind (sh_ref_GoodProvider a0) fun v1 =>
  (.ite (!v1)
    (.leaf (a0, 2))
    (.ite ((decide (a1 < 0)) || (decide (a1 > 1)))
      (.leaf (a0, 4))
      (.guard ((0 : Int) ≤ a1 ∧ (a1 : Int) < 2)
      (.ite (a0.Links.Gone.get a1)
        (.leaf (a0, 11))
        (.guard ((0 : Int) ≤ a1 ∧ (a1 : Int) < 2)
        (.ite (a0.Links.On.get a1)
          (.leaf (a0, 5))
          (.ite ((a0.Height == 0) || (((a0.Set.length : Nat) : Int) == 0))
            (.leaf (a0, 13))
            (.bind (sh_ref_CopyProvider_o a0) fun v2 =>
            (.guard ((0 + Sl.len (.powers a0.Set)) * 16 ≤ 140737488355328)
            (.guard ((0 : Int) ≤ a1 ∧ (a1 : Int) < 2)
            (.bind (sh_ref_Begin_l1 a1 a0.Stake.Waits ((a0.Stake.Waits.length : Nat) : Int) 0 a0 (default : Provider) ({ (v2 : Provider) with Links := (⟨(v2.Links.On.set a1 true), (v2.Links.Gone.set a1 false), (v2.Links.Base.set a1 a0.Height), (v2.Links.Told.set a1 a0.Set), (v2.Links.Fresh.set a1 false), (v2.Links.Done.set a1 []), (v2.Links.Said.set a1 []), (v2.Links.Due.set a1 []), (v2.Links.Got.set a1 0), (v2.Links.Closed.set a1 false), (v2.Links.SHeight.set a1 0), (v2.Links.STime.set a1 0), (v2.Links.SSaid.set a1 0), (v2.Links.SGot.set a1 0)⟩ : Links) })) fun v3 =>
            (.leaf (v3.2, 0))))))))))))))
def sh_ref_Begin (a0 : Provider) (a1 : Int) : Option (Provider × Int) := (T_ref_Begin a0 a1).run
def zr139 : LQ (Provider × Int) := (LQ.seq (Par.q (Par.ofLP providerL)) (Par.q intP))
def qr_ref_Begin : LQ (Provider × Int) := (LQ.seq (Par.q (Par.ofLP providerL)) (Par.q intP))
def F_ref_Begin : SpecT := specF 0 zr139 2 [] (fun s => T_ref_Begin s.1 s.2) default qr_ref_Begin 2 []
theorem ok_ref_Begin : SpecOk Tryz.prog 30 (F_ref_Begin).spec :=
  specF_ok (A := za139) zh139 Facts.mix Tryz.func30 (c := zc139) (by kernel_rfl) (Lc := 0) ⟨zk139a, trivial⟩ zr139 2 9 [] (fun s => T_ref_Begin s.1 s.2) default qr_ref_Begin 2 [] [.pubB 4] (by decide) (by kernel_rfl) (by rfl) (by decide) (by decide) (by rfl)
    (by rintro ⟨a0, a1⟩; kernel_rfl)

noncomputable def zc140 : Code := Tryz.f32.body.getD .skip
def zv140 : List (List Nat) := [[1, 2, 4], [1, 2, 4, 28], [4], [1, 4, 5], [1, 4, 5, 6], [1, 4, 5], [1, 4, 5], [1, 4, 5, 7], [1, 4, 5, 7, 57, 58, 59], [1, 4, 5, 7, 57, 58, 59, 60], [1, 4, 5, 7, 9, 57, 58, 59], [1, 4, 5, 7, 9, 57, 58, 59, 66], [1, 4, 5, 7, 57, 58, 59], [1, 4, 5, 7, 57, 58, 59], [4, 5], [4]]
noncomputable def zy140 : EnvT := ⟨Tryz.prog, lookT [(35, F_ref_GoodProvider), (11, F_ref_CopyProvider_o), (84, F_ref_Release)]⟩
theorem zh140 : (zy140).Ok := lookT_ok ⟨ok_ref_GoodProvider, ok_ref_CopyProvider_o, ok_ref_Release, trivial⟩
def T_ref_Remove_l1 (x0 : Int) (x1 : Int) (x2 : Int) (x3 : Provider) (x4 : Provider) (x5 : (List Asked)) : Tr ((Int × Int × Int × Provider × Provider × (List Asked)) ⊕ (Provider × Provider × (List Asked))) :=
  (.ite (decide (x2 < x1))
    (.guard ((0 : Int) ≤ x2 ∧ x2 < ((Sl.len (.asked x4.Queue) : Nat) : Int))
    (.ite (((x4.Queue.getD x2.toNat default).C) != x0)
      (.guard ((Sl.len (.asked x5) + Sl.len (.asked [(x4.Queue.getD x2.toNat default)])) * 88 ≤ 140737488355328)
      (.leaf (.inl (x0, x1, IntKind.i64.wrap (x2 + 1), x3, x4, x5 ++ [(x4.Queue.getD x2.toNat default)]))))
      (.leaf (.inl (x0, x1, IntKind.i64.wrap (x2 + 1), x3, x4, x5)))))
    (.leaf (.inr (x3, x4, x5))))
def sh_ref_Remove_l1 (x0 : Int) (x1 : Int) (x2 : Int) (x3 : Provider) (x4 : Provider) (x5 : (List Asked)) : Option (Provider × Provider × (List Asked)) := iter (fun s : Int × Int × Int × Provider × Provider × (List Asked) => (T_ref_Remove_l1 s.1 s.2.1 s.2.2.1 s.2.2.2.1 s.2.2.2.2.1 s.2.2.2.2.2).run) (x0, x1, x2, x3, x4, x5)
def za140a : Ann := ⟨[], [], [], zv140, []⟩
def zq140a : EndD (Int × Int × Int × Provider × Provider × (List Asked)) := ⟨(LQ.map (LQ.seq (Par.q intP) (LQ.skip (LQ.const (.ptr 0 0)) (LQ.skip (LQ.const (.ptr 1 0)) (LQ.skip (LQ.const (.own 2)) (LQ.skip (LQ.const (.own 3)) (LQ.seq (Par.q intP) (LQ.seq (Par.q intP) (LQ.seq (LP.q providerL) (LQ.seq (Par.q intP) (LQ.seq (Par.q intP) (LQ.seq (LP.q stakeL) (LQ.skip (LQ.const (.own 4)) (LQ.seq (LP.q linksL) (LQ.seq (LP.q meterL) (LQ.skip (LQ.const (.own 3)) (LQ.seq (Par.q askedP) (LQ.seq (Par.q askedP) (Par.q powersP)))))))))))))))))) (fun x : Int × Int × Int × Provider × Int × Int × Stake × Links × Meter × (List Asked) × (List Asked) × (List Power) => ((x.1, x.2.1, x.2.2.1, x.2.2.2.1, (⟨x.2.2.2.2.1, x.2.2.2.2.2.1, x.2.2.2.2.2.2.1, x.2.2.2.2.2.2.2.2.2.2.2, x.2.2.2.2.2.2.2.1, x.2.2.2.2.2.2.2.2.1, x.2.2.2.2.2.2.2.2.2.2.1⟩ : Provider), x.2.2.2.2.2.2.2.2.2.1) : Int × Int × Int × Provider × Provider × (List Asked))) (fun y => (y.1, y.2.1, y.2.2.1, y.2.2.2.1, y.2.2.2.2.1.Height, y.2.2.2.2.1.Time, y.2.2.2.2.1.Stake, y.2.2.2.2.1.Links, y.2.2.2.2.1.Meter, y.2.2.2.2.2, y.2.2.2.2.1.Queue, y.2.2.2.2.1.Set)) (fun _ => rfl)), ⟨[1, 4, 5, 7, 57, 58, 59], [.nilcell 5 65 116 (.powers []), .nilcell 5 96 83 (.asked []), .nilown 7 83 (.asked []), .nilown 57 83 (.asked [])]⟩, [.cells 47 97, .cells 47 97, .rows 83, .rows 83, .rows 116]⟩
def zq140ae0 : EndD (Provider × Provider × (List Asked)) := ⟨(LQ.map (LQ.skip (LQ.const (.ptr 0 0)) (LQ.skip (LQ.const (.ptr 1 0)) (LQ.skip (LQ.const (.own 2)) (LQ.seq (LP.q providerL) (LQ.seq (Par.q intP) (LQ.seq (Par.q intP) (LQ.seq (LP.q stakeL) (LQ.skip (LQ.const (.own 3)) (LQ.seq (LP.q linksL) (LQ.seq (LP.q meterL) (LQ.skip (LQ.const (.own 4)) (LQ.seq (Par.q askedP) (LQ.seq (Par.q powersP) (Par.q askedP)))))))))))))) (fun x : Provider × Int × Int × Stake × Links × Meter × (List Asked) × (List Power) × (List Asked) => ((x.1, (⟨x.2.1, x.2.2.1, x.2.2.2.1, x.2.2.2.2.2.2.2.1, x.2.2.2.2.1, x.2.2.2.2.2.1, x.2.2.2.2.2.2.2.2⟩ : Provider), x.2.2.2.2.2.2.1) : Provider × Provider × (List Asked))) (fun y => (y.1, y.2.1.Height, y.2.1.Time, y.2.1.Stake, y.2.1.Links, y.2.1.Meter, y.2.2, y.2.1.Set, y.2.1.Queue)) (fun _ => rfl)), ⟨[4, 5, 7], [.nilcell 5 65 116 (.powers []), .nilcell 5 96 83 (.asked []), .nilown 7 83 (.asked [])]⟩, [.cells 47 97, .cells 47 97, .rows 83, .rows 116, .rows 83]⟩
def zl140a : St → Option LR := L1 75 10 0 zq140a (.exit 0) zq140ae0 (fun s => T_ref_Remove_l1 s.1 s.2.1 s.2.2.1 s.2.2.2.1 s.2.2.2.2.1 s.2.2.2.2.2)
theorem zk140a : PieceOk (zy140).env 0 (sub zc140 [0, 1, 0, 1, 1, 1, 1, 1, 1, 1]) zl140a :=
  loop1 (A := za140a) zh140 Facts.mix trivial (k := loopB (sub zc140 [0, 1, 0, 1, 1, 1, 1, 1, 1, 1])) (by kernel_rfl) rfl (by rintro ⟨x0, x1, x2, x3, x4, x5⟩; kernel_rfl)
def za140 : Ann := ⟨[([0, 1, 0, 1, 1, 1, 1, 1, 1, 1], zl140a)], [], [], zv140, []⟩
def T_ref_Remove (a0 : Provider) (a1 : Int) : Tr (Provider) :=
  (.guard ((((decide (a1 < 0)) || (decide (a1 > 1))) = false → ((sh_ref_GoodProvider a0).isSome = true) ∧ True))
  (.guard (((((decide (a1 < 0)) || (decide (a1 > 1))) || (!((sh_ref_GoodProvider a0).getD default))) = false → ((0 : Int) ≤ a1 ∧ (a1 : Int) < 2) ∧ True))
  (.ite ((((decide (a1 < 0)) || (decide (a1 > 1))) || (!((sh_ref_GoodProvider a0).getD default))) || (!(a0.Links.On.get a1)))
    (.leaf a0)
    (.bind (sh_ref_CopyProvider_o a0) fun v1 =>
    (.guard ((0 : Int) ≤ a1 ∧ (a1 : Int) < 2)
    (.bind (sh_ref_Release v1.Stake a1 1099511627776) fun v3 =>
    (.bind (sh_ref_Remove_l1 a1 ((v1.Queue.length : Nat) : Int) 0 (default : Provider) ({ (v1 : Provider) with Stake := v3, Links := { (v1.Links : Links) with On := (v1.Links.On.set a1 false), Gone := (v1.Links.Gone.set a1 true), Fresh := (v1.Links.Fresh.set a1 false), Done := (v1.Links.Done.set a1 []), Closed := (v1.Links.Closed.set a1 true) } }) []) fun v4 =>
    (.leaf ({ (v4.2.1 : Provider) with Queue := v4.2.2 })))))))))
def sh_ref_Remove (a0 : Provider) (a1 : Int) : Option (Provider) := (T_ref_Remove a0 a1).run
def zr140 : LQ (Provider × Int) := (LQ.seq (Par.q (Par.ofLP providerL)) (Par.q intP))
def qr_ref_Remove : LQ (Provider) := (Par.q (Par.ofLP providerL))
def F_ref_Remove : SpecT := specF 0 zr140 2 [] (fun s => T_ref_Remove s.1 s.2) default qr_ref_Remove 1 []
theorem ok_ref_Remove : SpecOk Tryz.prog 32 (F_ref_Remove).spec :=
  specF_ok (A := za140) zh140 Facts.mix Tryz.func32 (c := zc140) (by kernel_rfl) (Lc := 0) ⟨zk140a, trivial⟩ zr140 2 10 [] (fun s => T_ref_Remove s.1 s.2) default qr_ref_Remove 1 [] [.pubB 4] (by decide) (by kernel_rfl) (by rfl) (by decide) (by decide) (by rfl)
    (by rintro ⟨a0, a1⟩; kernel_rfl)

end
end Go.Proofs.YtknbejjfejdppaaGreat.Ab
