/-
  The functions, each by its tree.
-/
import Derived.Test.YtmakmlnfbdablaaGreatXAbFun
import Derived.Test.YtmakmlnfbdablaaGreatXAbStructs
import Derived.Test.YtmakmlnfbdablaaGreatXFBank
import Derived.Test.YtmakmlnfbdablaaGreatXFLine
import Derived.Test.YtmakmlnfbdablaaGreatXFRatio
import Derived.Test.YtmakmlnfbdablaaGreatXFacts
namespace Go.Proofs.YtmakmlnfbdablaaGreat.Ab
open Go Go.RowKit
set_option maxRecDepth 100000
set_option linter.unusedVariables false
set_option linter.unusedSimpArgs false
noncomputable section
noncomputable def zc52 : Code := Tryz.f66.body.getD .skip
def zv52 : List (List Nat) := [[0], [0]]
noncomputable def zy52 : EnvT := ⟨Tryz.prog, zt [(89, z7b)]⟩
theorem zh52 : (zy52).Ok := zd ⟨zac7, trivial⟩
def za52 : Ann := ⟨[], [], [], zv52, []⟩
def ztd  : Tr (Stake) :=
  (.bind (zyr) fun v1 =>
  (.leaf (⟨v1, (default : Validators), (⟨(⟨0, 0, 0, 0, 0, 0⟩ : (A6 Int)), (⟨0, 0, 0, 0, 0, 0⟩ : (A6 Int)), (⟨0, 0, 0, 0, 0, 0⟩ : (A6 Int)), (⟨0, 0, 0, 0, 0, 0⟩ : (A6 Int))⟩ : (A4 (A6 Int))), [], 1⟩ : Stake)))
def zu8  : Option (Stake) := (ztd ).run
def zr52 : LQ (Unit) := LQ.nil
def z2h : LQ (Stake) := (Par.q (Par.ofLP stakeL))
def z4q : SpecT := zu 0 zr52 0 [] (fun s => ztd ) default z2h 1 []
theorem zaay : zh Tryz.prog 66 (z4q).spec :=
  ze (A := za52) zh52 Facts.mix Tryz.func66 (c := zc52) (by kernel_rfl) (Lc := 0) trivial zr52 0 3 [] (fun s => ztd ) default z2h 1 [] [.pubB 0] (by decide) (by kernel_rfl) (by rfl) (by decide) (by decide) (by rfl)
    (by rintro _; kernel_rfl)
noncomputable def zc53 : Code := Tryz.f21.body.getD .skip
def zv53 : List (List Nat) := [[1], [1, 31], [2], [1, 3, 4, 5], [1, 3, 4, 5, 33, 34], [1, 3, 4, 5, 33, 34, 35], [1, 3, 4, 5, 6, 7, 33, 34], [1, 3, 4, 5, 6, 7, 33, 34, 72], [2], [1, 3, 4, 5, 6, 7, 8, 33, 34], [1, 3, 4, 5, 6, 7, 8, 33, 34, 73], [1, 3, 4, 5, 6, 7, 8, 33, 34, 73, 74], [1, 3, 4, 5, 6, 7, 8, 9, 33, 34, 73], [1, 3, 4, 5, 6, 7, 8, 9, 33, 34, 73, 83], [2], [1, 3, 4, 5, 6, 7, 8, 33, 34, 73], [1, 3, 4, 5, 6, 7, 8, 33, 34, 73], [1, 3, 4, 5, 7, 33, 34, 96], [2], [1, 3, 4, 5, 33, 34], [1, 3, 4, 5, 33, 34], [1, 3, 4, 5, 107, 108, 109], [1, 3, 4, 5, 107, 108, 109, 110], [1, 3, 4, 5, 10, 11, 107, 108, 109], [1, 3, 4, 5, 11, 107, 108, 109, 175], [2], [1, 3, 4, 5, 107, 108, 109], [1, 3, 4, 5, 107, 108, 109], [2]]
noncomputable def zy53 : EnvT := ⟨Tryz.prog, zt [(50, zjh), (51, zjt)]⟩
theorem zh53 : (zy53).Ok := zd ⟨zju, zjg, trivial⟩
def zfg (x0 : Int) (x1 : Int) (x2 : Int) (x3 : Int) (x4 : Int) (x5 : (A6 zg)) (x6 : Int) (x7 : Int) (x8 : Stake) (x9 : zg) : Tr ((Int × Int × Int × Int × Int × (A6 zg) × Int × Int × Stake × zg) ⊕ ((Bool) ⊕ (Int × Int × Int × Int × (A6 zg) × Int × Stake × zg))) :=
  (.ite (decide (x7 < 4))
    (.guard ((0 : Int) ≤ x7 ∧ (x7 : Int) < 4)
    (.guard ((0 : Int) ≤ x3 ∧ (x3 : Int) < 6)
    (.bind (zaa (A46.get x8.Shares x7 x3)) fun v3 =>
    (.ite (!v3)
      (.leaf (.inr (.inl false)))
      (.guard ((0 : Int) ≤ x7 ∧ (x7 : Int) < 4)
      (.guard ((0 : Int) ≤ x3 ∧ (x3 : Int) < 6)
      (.leaf (.inl (x0, x1, x2, x3, IntKind.i64.wrap (x4 + (A46.get x8.Shares x7 x3)), x5, x6, IntKind.i64.wrap (x7 + 1), x8, x9)))))))))
    (.leaf (.inr (.inr (x0, x1, x2, x4, x5, x6, x8, x9)))))
def znf (x0 : Int) (x1 : Int) (x2 : Int) (x3 : Int) (x4 : Int) (x5 : (A6 zg)) (x6 : Int) (x7 : Int) (x8 : Stake) (x9 : zg) : Option ((Bool) ⊕ (Int × Int × Int × Int × (A6 zg) × Int × Stake × zg)) := ze1 (fun s : Int × Int × Int × Int × Int × (A6 zg) × Int × Int × Stake × zg => (zfg s.1 s.2.1 s.2.2.1 s.2.2.2.1 s.2.2.2.2.1 s.2.2.2.2.2.1 s.2.2.2.2.2.2.1 s.2.2.2.2.2.2.2.1 s.2.2.2.2.2.2.2.2.1 s.2.2.2.2.2.2.2.2.2).run) (x0, x1, x2, x3, x4, x5, x6, x7, x8, x9)
def zayt : Ann := ⟨[], [], [], zv53, []⟩
def zayu : EndD (Int × Int × Int × Int × Int × (A6 zg) × Int × Int × Stake × zg) := ⟨(LQ.skip (LQ.const (.ptr 0 0)) (LQ.seq (Par.q intP) (LQ.seq (Par.q intP) (LQ.seq (Par.q intP) (LQ.seq (Par.q intP) (LQ.skip (LQ.const (.ptr 1 0)) (LQ.seq (Par.q intP) (LQ.seq (Par.q (Par.ofLP (a6L zjq))) (LQ.seq (Par.q intP) (LQ.seq (Par.q intP) (LQ.seq (LP.q stakeL) (LP.q zjq)))))))))))), ⟨[1, 3, 4, 5, 6, 7, 8, 33, 34, 73], []⟩, [.cells 46 63, .cells 40 5]⟩
def zapu : EndD (Bool) := ⟨(Par.q boolP), ⟨[2], []⟩, []⟩
def zapv : EndD (Int × Int × Int × Int × (A6 zg) × Int × Stake × zg) := ⟨(LQ.skip (LQ.const (.ptr 0 0)) (LQ.seq (Par.q intP) (LQ.seq (Par.q intP) (LQ.seq (Par.q intP) (LQ.skip (LQ.const (.ptr 1 0)) (LQ.seq (Par.q intP) (LQ.seq (Par.q (Par.ofLP (a6L zjq))) (LQ.seq (Par.q intP) (LQ.seq (LP.q stakeL) (LP.q zjq)))))))))), ⟨[1, 3, 4, 5, 7, 8, 33, 34], []⟩, [.cells 46 63, .cells 40 5]⟩
def zatm : St → Option LR := L2 200 4 0 zayu .ret zapu (.exit 2) zapv (fun s => zfg s.1 s.2.1 s.2.2.1 s.2.2.2.1 s.2.2.2.2.1 s.2.2.2.2.2.1 s.2.2.2.2.2.2.1 s.2.2.2.2.2.2.2.1 s.2.2.2.2.2.2.2.2.1 s.2.2.2.2.2.2.2.2.2)
theorem zayv : zv (zy53).env 0 (sub zc53 [0, 1, 0, 1, 1, 1, 0, 0, 1, 1, 0, 0, 1, 0, 1, 1, 1]) zatm :=
  zs3 (A := zayt) zh53 Facts.mix trivial (k := zdk (sub zc53 [0, 1, 0, 1, 1, 1, 0, 0, 1, 1, 0, 0, 1, 0, 1, 1, 1])) (by kernel_rfl) rfl rfl (by rintro ⟨x0, x1, x2, x3, x4, x5, x6, x7, x8, x9⟩; kernel_rfl)
def zfh (x0 : Int) (x1 : Int) (x2 : Int) (x3 : (A6 zg)) (x4 : Int) (x5 : Stake) : Tr ((Int × Int × Int × (A6 zg) × Int × Stake) ⊕ ((Bool) ⊕ (Int × Int × Int × Stake))) :=
  (.ite (decide (x4 < 6))
    (.guard ((0 : Int) ≤ x4 ∧ (x4 : Int) < 6)
    (.bind (zaa (A6.get ⟨x3.x0.Tokens, x3.x1.Tokens, x3.x2.Tokens, x3.x3.Tokens, x3.x4.Tokens, x3.x5.Tokens⟩ x4)) fun v2 =>
    (.guard (((!v2) = false → ((zaa (A6.get ⟨x3.x0.Shares, x3.x1.Shares, x3.x2.Shares, x3.x3.Shares, x3.x4.Shares, x3.x5.Shares⟩ x4)).isSome = true) ∧ True))
    (.guard ((((!v2) || (!((zaa (A6.get ⟨x3.x0.Shares, x3.x1.Shares, x3.x2.Shares, x3.x3.Shares, x3.x4.Shares, x3.x5.Shares⟩ x4)).getD default))) = false → ((zaa (A6.get ⟨x3.x0.Lost, x3.x1.Lost, x3.x2.Lost, x3.x3.Lost, x3.x4.Lost, x3.x5.Lost⟩ x4)).isSome = true) ∧ True))
    (.ite (((((!v2) || (!((zaa (A6.get ⟨x3.x0.Shares, x3.x1.Shares, x3.x2.Shares, x3.x3.Shares, x3.x4.Shares, x3.x5.Shares⟩ x4)).getD default))) || (!((zaa (A6.get ⟨x3.x0.Lost, x3.x1.Lost, x3.x2.Lost, x3.x3.Lost, x3.x4.Lost, x3.x5.Lost⟩ x4)).getD default))) || (((A6.get ⟨x3.x0.Shares, x3.x1.Shares, x3.x2.Shares, x3.x3.Shares, x3.x4.Shares, x3.x5.Shares⟩ x4) == 0) && (decide ((A6.get ⟨x3.x0.Tokens, x3.x1.Tokens, x3.x2.Tokens, x3.x3.Tokens, x3.x4.Tokens, x3.x5.Tokens⟩ x4) > 0)))) || ((A6.get ⟨x3.x0.Dead, x3.x1.Dead, x3.x2.Dead, x3.x3.Dead, x3.x4.Dead, x3.x5.Dead⟩ x4) && (!(A6.get ⟨x3.x0.Jailed, x3.x1.Jailed, x3.x2.Jailed, x3.x3.Jailed, x3.x4.Jailed, x3.x5.Jailed⟩ x4))))
      (.leaf (.inr (.inl false)))
      (.two (znf x0 x1 x2 x4 0 x3 x4 0 x5 (⟨A6.get ⟨x3.x0.Tokens, x3.x1.Tokens, x3.x2.Tokens, x3.x3.Tokens, x3.x4.Tokens, x3.x5.Tokens⟩ x4, A6.get ⟨x3.x0.Shares, x3.x1.Shares, x3.x2.Shares, x3.x3.Shares, x3.x4.Shares, x3.x5.Shares⟩ x4, A6.get ⟨x3.x0.Lost, x3.x1.Lost, x3.x2.Lost, x3.x3.Lost, x3.x4.Lost, x3.x5.Lost⟩ x4, A6.get ⟨x3.x0.Jailed, x3.x1.Jailed, x3.x2.Jailed, x3.x3.Jailed, x3.x4.Jailed, x3.x5.Jailed⟩ x4, A6.get ⟨x3.x0.Dead, x3.x1.Dead, x3.x2.Dead, x3.x3.Dead, x3.x4.Dead, x3.x5.Dead⟩ x4⟩ : zg)) (fun v4 =>
        (.leaf (.inr (.inl v4)))) (fun v5 =>
        (.ite (v5.2.2.2.1 != v5.2.2.2.2.2.2.2.Shares)
          (.leaf (.inr (.inl false)))
          (.leaf (.inl (IntKind.i64.wrap (v5.1 + v5.2.2.2.2.2.2.2.Tokens), v5.2.1, IntKind.i64.wrap (v5.2.2.1 + v5.2.2.2.2.2.2.2.Lost), v5.2.2.2.2.1, IntKind.i64.wrap (v5.2.2.2.2.2.1 + 1), v5.2.2.2.2.2.2.1)))))))))))
    (.leaf (.inr (.inr (x0, x1, x2, (⟨x5.Bank, x5.Validators, x5.Shares, x5.Waits, x5.Next⟩ : Stake))))))
def zng (x0 : Int) (x1 : Int) (x2 : Int) (x3 : (A6 zg)) (x4 : Int) (x5 : Stake) : Option ((Bool) ⊕ (Int × Int × Int × Stake)) := ze1 (fun s : Int × Int × Int × (A6 zg) × Int × Stake => (zfh s.1 s.2.1 s.2.2.1 s.2.2.2.1 s.2.2.2.2.1 s.2.2.2.2.2).run) (x0, x1, x2, x3, x4, x5)
def zayw : Ann := ⟨[([0, 1, 0, 1, 1, 1, 0, 0, 1, 1, 0, 0, 1, 0, 1, 1, 1], zatm)], [], [], zv53, []⟩
def zayx : EndD (Int × Int × Int × (A6 zg) × Int × Stake) := ⟨(LQ.skip (LQ.const (.ptr 0 0)) (LQ.seq (Par.q intP) (LQ.seq (Par.q intP) (LQ.seq (Par.q intP) (LQ.seq (Par.q (Par.ofLP (a6L zjq))) (LQ.seq (Par.q intP) (LP.q stakeL))))))), ⟨[1, 3, 4, 5, 33, 34], []⟩, [.cells 46 63]⟩
def zapw : EndD (Bool) := ⟨(Par.q boolP), ⟨[2], []⟩, []⟩
def zapx : EndD (Int × Int × Int × Stake) := ⟨(LQ.skip (LQ.const (.ptr 0 0)) (LQ.seq (Par.q intP) (LQ.seq (Par.q intP) (LQ.seq (Par.q intP) (LP.q stakeL))))), ⟨[1, 3, 4, 5], []⟩, [.cells 46 63]⟩
def zatn : St → Option LR := L2 200 4 0 zayx .ret zapw (.exit 0) zapx (fun s => zfh s.1 s.2.1 s.2.2.1 s.2.2.2.1 s.2.2.2.2.1 s.2.2.2.2.2)
theorem zayy : zv (zy53).env 0 (sub zc53 [0, 1, 0, 1, 1, 1]) zatn :=
  zs3 (A := zayw) zh53 Facts.mix ⟨zayv, trivial⟩ (k := zdk (sub zc53 [0, 1, 0, 1, 1, 1])) (by kernel_rfl) rfl rfl (by rintro ⟨x0, x1, x2, x3, x4, x5⟩; kernel_rfl)
def zg5 (x0 : Int) (x1 : Int) (x2 : Int) (x3 : (List Wait)) (x4 : Int) (x5 : Int) (x6 : Stake) : Tr ((Int × Int × Int × (List Wait) × Int × Int × Stake) ⊕ ((Bool) ⊕ (Int × Int × Int × Stake))) :=
  (.ite (decide (x5 < x4))
    (.guard ((0 : Int) ≤ x5 ∧ x5 < ((Sl.len (.waits x3) : Nat) : Int))
    (.guard (((decide (x5 > 0)) = true → (((decide (((x3.getD x5.toNat default).Number) < 1)) || (decide (((x3.getD x5.toNat default).Number) ≥ x6.Next))) = false → ((0 : Int) ≤ (IntKind.i64.wrap (x5 - 1)) ∧ (IntKind.i64.wrap (x5 - 1)) < ((Sl.len (.waits x6.Waits) : Nat) : Int)) ∧ True)))
    (.guard (((((((((decide (((x3.getD x5.toNat default).Number) < 1)) || (decide (((x3.getD x5.toNat default).Number) ≥ x6.Next))) || ((decide (x5 > 0)) && (decide (((x6.Waits.getD ((IntKind.i64.wrap (x5 - 1)).toNat) default).Number) ≥ ((x3.getD x5.toNat default).Number))))) || (decide (((x3.getD x5.toNat default).D) < 0))) || (decide (((x3.getD x5.toNat default).D) ≥ 4))) || (decide (((x3.getD x5.toNat default).V) < 0))) || (decide (((x3.getD x5.toNat default).V) ≥ 6))) = false → ((zaa ((x3.getD x5.toNat default).Amount)).isSome = true) ∧ True))
    (.ite ((((((((((decide (((x3.getD x5.toNat default).Number) < 1)) || (decide (((x3.getD x5.toNat default).Number) ≥ x6.Next))) || ((decide (x5 > 0)) && (decide (((x6.Waits.getD ((IntKind.i64.wrap (x5 - 1)).toNat) default).Number) ≥ ((x3.getD x5.toNat default).Number))))) || (decide (((x3.getD x5.toNat default).D) < 0))) || (decide (((x3.getD x5.toNat default).D) ≥ 4))) || (decide (((x3.getD x5.toNat default).V) < 0))) || (decide (((x3.getD x5.toNat default).V) ≥ 6))) || (!((zaa ((x3.getD x5.toNat default).Amount)).getD default))) || (decide (((x3.getD x5.toNat default).Height) < 0))) || (decide (((x3.getD x5.toNat default).Due) < 0)))
      (.leaf (.inr (.inl false)))
      (.leaf (.inl (x0, IntKind.i64.wrap (x1 + ((x3.getD x5.toNat default).Amount)), x2, x3, x4, IntKind.i64.wrap (x5 + 1), x6)))))))
    (.leaf (.inr (.inr (x0, x1, x2, x6)))))
def zi4 (x0 : Int) (x1 : Int) (x2 : Int) (x3 : (List Wait)) (x4 : Int) (x5 : Int) (x6 : Stake) : Option ((Bool) ⊕ (Int × Int × Int × Stake)) := ze1 (fun s : Int × Int × Int × (List Wait) × Int × Int × Stake => (zg5 s.1 s.2.1 s.2.2.1 s.2.2.2.1 s.2.2.2.2.1 s.2.2.2.2.2.1 s.2.2.2.2.2.2).run) (x0, x1, x2, x3, x4, x5, x6)
def zayz : Ann := ⟨[], [], [], zv53, []⟩
def zay0 : EndD (Int × Int × Int × (List Wait) × Int × Int × Stake) := ⟨(LQ.skip (LQ.const (.ptr 0 0)) (LQ.seq (Par.q intP) (LQ.seq (Par.q intP) (LQ.seq (Par.q intP) (LQ.seq (Par.q zmu) (LQ.seq (Par.q intP) (LQ.seq (Par.q intP) (LP.q stakeL)))))))), ⟨[1, 3, 4, 5, 107, 108, 109], [.pub 107, .nilsl 107 (.waits [])]⟩, [.cells 46 63]⟩
def zapy : EndD (Bool) := ⟨(Par.q boolP), ⟨[2], []⟩, []⟩
def zapz : EndD (Int × Int × Int × Stake) := ⟨(LQ.skip (LQ.const (.ptr 0 0)) (LQ.seq (Par.q intP) (LQ.seq (Par.q intP) (LQ.seq (Par.q intP) (LP.q stakeL))))), ⟨[1, 3, 4, 5], []⟩, [.cells 46 63]⟩
def zato : St → Option LR := L2 200 4 0 zay0 .ret zapy (.exit 4) zapz (fun s => zg5 s.1 s.2.1 s.2.2.1 s.2.2.2.1 s.2.2.2.2.1 s.2.2.2.2.2.1 s.2.2.2.2.2.2)
theorem zay1 : zv (zy53).env 0 (sub zc53 [0, 1, 0, 1, 1, 1, 1]) zato :=
  zs3 (A := zayz) zh53 Facts.mix trivial (k := zdk (sub zc53 [0, 1, 0, 1, 1, 1, 1])) (by kernel_rfl) rfl rfl (by rintro ⟨x0, x1, x2, x3, x4, x5, x6⟩; kernel_rfl)
def za53 : Ann := ⟨[([0, 1, 0, 1, 1, 1], zatn), ([0, 1, 0, 1, 1, 1, 1], zato)], [], [], zv53, []⟩
def zql (a0 : Stake) : Tr (Bool) :=
  (.bind (zft a0.Bank) fun v1 =>
  (.ite ((((!v1) || (decide (a0.Next < 1))) || (decide (a0.Next > 1125899906842624))) || (decide (((a0.Waits.length : Nat) : Int) > 60)))
    (.leaf false)
    (.two (zng 0 0 0 (⟨(⟨a0.Validators.Tokens.x0, a0.Validators.Shares.x0, a0.Validators.Lost.x0, a0.Validators.Jailed.x0, a0.Validators.Dead.x0⟩ : zg), (⟨a0.Validators.Tokens.x1, a0.Validators.Shares.x1, a0.Validators.Lost.x1, a0.Validators.Jailed.x1, a0.Validators.Dead.x1⟩ : zg), (⟨a0.Validators.Tokens.x2, a0.Validators.Shares.x2, a0.Validators.Lost.x2, a0.Validators.Jailed.x2, a0.Validators.Dead.x2⟩ : zg), (⟨a0.Validators.Tokens.x3, a0.Validators.Shares.x3, a0.Validators.Lost.x3, a0.Validators.Jailed.x3, a0.Validators.Dead.x3⟩ : zg), (⟨a0.Validators.Tokens.x4, a0.Validators.Shares.x4, a0.Validators.Lost.x4, a0.Validators.Jailed.x4, a0.Validators.Dead.x4⟩ : zg), (⟨a0.Validators.Tokens.x5, a0.Validators.Shares.x5, a0.Validators.Lost.x5, a0.Validators.Jailed.x5, a0.Validators.Dead.x5⟩ : zg)⟩ : (A6 zg)) 0 a0) (fun v6 =>
      (.leaf v6)) (fun v7 =>
      (.two (zi4 v7.1 v7.2.1 v7.2.2.1 v7.2.2.2.Waits ((v7.2.2.2.Waits.length : Nat) : Int) 0 v7.2.2.2) (fun v8 =>
        (.leaf v8)) (fun v9 =>
        (.leaf (((v9.1 == v9.2.2.2.Bank.Bonded) && (v9.2.1 == v9.2.2.2.Bank.Waiting)) && (v9.2.2.1 == v9.2.2.2.Bank.Burnt)))))))))
def zkd (a0 : Stake) : Option (Bool) := (zql a0).run
def zr53 : LQ (Stake) := (Par.q (Par.ofLP stakeL))
def z0k : LQ (Bool) := (Par.q boolP)
def zqm : SpecT := zu 0 zr53 1 [] (fun s => zql s) default z0k 1 []
theorem zte : zh Tryz.prog 21 (zqm).spec :=
  ze (A := za53) zh53 Facts.mix Tryz.func21 (c := zc53) (by kernel_rfl) (Lc := 0) ⟨zayy, zay1, trivial⟩ zr53 1 4 [] (fun s => zql s) default z0k 1 [] [] (by decide) (by kernel_rfl) (by rfl) (by decide) (by decide) (by rfl)
    (by rintro a0; kernel_rfl)
noncomputable def zc54 : Code := Tryz.f78.body.getD .skip
def zv54 : List (List Nat) := [[1, 2, 3], [1, 2, 7], [6], [11], [6], [6]]
noncomputable def zy54 : EnvT := ⟨Tryz.prog, zt [(21, zqm)]⟩
theorem zh54 : (zy54).Ok := zd ⟨zte, trivial⟩
def za54 : Ann := ⟨[], [], [], zv54, []⟩
def zop (a0 : Stake) (a1 : Int) (a2 : Int) : Tr (Int) :=
  (.bind (zkd a0) fun v1 =>
  (.ite (!v1)
    (.leaf 2)
    (.ite ((((decide (a1 < 0)) || (decide (a1 ≥ 4))) || (decide (a2 < 0))) || (decide (a2 ≥ 6)))
      (.leaf 4)
      (.leaf 0))))
def zdt (a0 : Stake) (a1 : Int) (a2 : Int) : Option (Int) := (zop a0 a1 a2).run
def zr54 : LQ (Stake × Int × Int) := (LQ.seq (Par.q (Par.ofLP stakeL)) (LQ.seq (Par.q intP) (Par.q intP)))
def zxx : LQ (Int) := (Par.q intP)
def zf5 : SpecT := zu 0 zr54 3 [] (fun s => zop s.1 s.2.1 s.2.2) default zxx 1 []
theorem zgm : zh Tryz.prog 78 (zf5).spec :=
  ze (A := za54) zh54 Facts.mix Tryz.func78 (c := zc54) (by kernel_rfl) (Lc := 0) trivial zr54 3 3 [] (fun s => zop s.1 s.2.1 s.2.2) default zxx 1 [] [] (by decide) (by kernel_rfl) (by rfl) (by decide) (by decide) (by rfl)
    (by rintro ⟨a0, a1, a2⟩; kernel_rfl)
noncomputable def zc55 : Code := Tryz.f76.body.getD .skip
def zv55 : List (List Nat) := [[1, 2, 3, 4, 8], [1, 2, 3, 4, 8, 10], [1, 2, 3, 4, 8, 10, 22], [8, 9], [1, 2, 3, 4, 8, 11], [1, 2, 3, 4, 8, 11, 31], [8, 9], [1, 2, 3, 4, 8, 11, 38], [8, 9], [1, 2, 3, 4, 8, 11, 12], [1, 2, 3, 4, 8, 11, 12, 45], [1, 2, 3, 4, 8, 11, 50], [8, 9], [1, 2, 3, 4, 8, 11, 13, 14], [1, 2, 3, 4, 8, 11, 13, 75], [8, 9], [1, 2, 3, 4, 8, 11, 12], [1, 2, 3, 4, 8, 11, 12, 79], [8, 9], [1, 2, 3, 4, 8, 11, 12, 15, 16], [1, 2, 3, 4, 8, 11, 12, 15, 16, 90], [8, 9], [1, 2, 3, 4, 8, 11, 12], [1, 2, 4, 8, 12], [4, 8], [8, 9]]
noncomputable def zy55 : EnvT := ⟨Tryz.prog, zt [(78, zf5), (91, zl1), (92, z4i)]⟩
theorem zh55 : (zy55).Ok := zd ⟨zgm, zo4, zaav, trivial⟩
def za55 : Ann := ⟨[], [], [], zv55, []⟩
def zi5 (a0 : Stake) (a1 : Int) (a2 : Int) (a3 : Int) : Tr (Stake × Int) :=
  (.bind (zdt a0 a1 a2) fun v1 =>
  (.ite (v1 != 0)
    (.leaf (a0, v1))
    (.guard ((0 : Int) ≤ a2 ∧ (a2 : Int) < 6)
    (.ite (a0.Validators.Dead.get a2)
      (.leaf (a0, 15))
      (.ite ((decide (a3 < 1)) || (decide (a3 > 1125899906842624)))
        (.leaf (a0, 2))
        (.ite (decide ((a0.Validators.Shares.get a2) > 0))
          (.ite ((a0.Validators.Tokens.get a2) == 0)
            (.leaf (a0, 8))
            (.guard ((z7 a3 (a0.Validators.Shares.get a2) (a0.Validators.Tokens.get a2)).isSome = true)
            (.ite (((((z7 a3 (a0.Validators.Shares.get a2) (a0.Validators.Tokens.get a2)).getD default).2) != 0) || (decide ((((z7 a3 (a0.Validators.Shares.get a2) (a0.Validators.Tokens.get a2)).getD default).1) > (IntKind.i64.wrap (1125899906842624 - (a0.Validators.Shares.get a2))))))
              (.leaf (a0, 6))
              (.ite ((((z7 a3 (a0.Validators.Shares.get a2) (a0.Validators.Tokens.get a2)).getD default).1) == 0)
                (.leaf (a0, 8))
                (.bind (zqe a0.Bank a1 a3) fun v2 =>
                (.ite (v2.2 != 0)
                  (.leaf (a0, v2.2))
                  (.guard ((0 : Int) ≤ a1 ∧ (a1 : Int) < 4)
                  (.guard ((0 : Int) ≤ a2 ∧ (a2 : Int) < 6)
                  (.guard ((0 : Int) ≤ a1 ∧ (a1 : Int) < 4)
                  (.guard ((0 : Int) ≤ a2 ∧ (a2 : Int) < 6)
                  (.leaf ((⟨v2.1, { (a0.Validators : Validators) with Tokens := (a0.Validators.Tokens.set a2 (IntKind.i64.wrap ((a0.Validators.Tokens.get a2) + a3))), Shares := (a0.Validators.Shares.set a2 (IntKind.i64.wrap ((a0.Validators.Shares.get a2) + (((z7 a3 (a0.Validators.Shares.get a2) (a0.Validators.Tokens.get a2)).getD default).1)))) }, (A46.set a0.Shares a1 a2 (IntKind.i64.wrap ((A46.get a0.Shares a1 a2) + (((z7 a3 (a0.Validators.Shares.get a2) (a0.Validators.Tokens.get a2)).getD default).1)))), a0.Waits, a0.Next⟩ : Stake), 0))))))))))))
          (.ite (a3 == 0)
            (.leaf (a0, 8))
            (.bind (zqe a0.Bank a1 a3) fun v3 =>
            (.ite (v3.2 != 0)
              (.leaf (a0, v3.2))
              (.guard ((0 : Int) ≤ a1 ∧ (a1 : Int) < 4)
              (.guard ((0 : Int) ≤ a2 ∧ (a2 : Int) < 6)
              (.guard ((0 : Int) ≤ a1 ∧ (a1 : Int) < 4)
              (.guard ((0 : Int) ≤ a2 ∧ (a2 : Int) < 6)
              (.leaf ((⟨v3.1, { (a0.Validators : Validators) with Tokens := (a0.Validators.Tokens.set a2 (IntKind.i64.wrap ((a0.Validators.Tokens.get a2) + a3))), Shares := (a0.Validators.Shares.set a2 (IntKind.i64.wrap ((a0.Validators.Shares.get a2) + a3))) }, (A46.set a0.Shares a1 a2 (IntKind.i64.wrap ((A46.get a0.Shares a1 a2) + a3))), a0.Waits, a0.Next⟩ : Stake), 0)))))))))))))))
def zln (a0 : Stake) (a1 : Int) (a2 : Int) (a3 : Int) : Option (Stake × Int) := (zi5 a0 a1 a2 a3).run
def zr55 : LQ (Stake × Int × Int × Int) := (LQ.seq (Par.q (Par.ofLP stakeL)) (LQ.seq (Par.q intP) (LQ.seq (Par.q intP) (Par.q intP))))
def zrx : LQ (Stake × Int) := (LQ.seq (Par.q (Par.ofLP stakeL)) (Par.q intP))
def zt0 : SpecT := zu 0 zr55 4 [] (fun s => zi5 s.1 s.2.1 s.2.2.1 s.2.2.2) default zrx 2 []
theorem z1k : zh Tryz.prog 76 (zt0).spec :=
  ze (A := za55) zh55 Facts.mix Tryz.func76 (c := zc55) (by kernel_rfl) (Lc := 0) trivial zr55 4 5 [] (fun s => zi5 s.1 s.2.1 s.2.2.1 s.2.2.2) default zrx 2 [] [.pubB 8] (by decide) (by kernel_rfl) (by rfl) (by decide) (by decide) (by rfl)
    (by rintro ⟨a0, a1, a2, a3⟩; kernel_rfl)
noncomputable def zc56 : Code := Tryz.f77.body.getD .skip
def zv56 : List (List Nat) := [[1, 2, 3, 5, 9, 10], [1, 2, 3, 5, 9, 10, 12], [1, 2, 3, 5, 9, 10, 12, 23], [10, 11], [1, 2, 3, 5, 9, 10, 41], [10, 11], [1, 2, 3, 5, 9, 10, 50], [10, 11], [1, 2, 3, 5, 9, 10, 60], [10, 11], [1, 2, 3, 5, 9, 10, 13], [1, 2, 3, 5, 9, 10, 13, 14], [1, 2, 3, 5, 9, 10, 13, 14, 83], [1, 2, 3, 5, 9, 10, 13, 14], [1, 2, 3, 5, 9, 10, 13, 14, 89], [10, 11], [1, 2, 3, 5, 9, 10, 13, 14, 16, 17], [1, 2, 3, 5, 9, 10, 13, 14, 16, 17, 99], [10, 11], [1, 2, 3, 5, 9, 10, 13, 14], [1, 2, 3, 5, 9, 10, 14], [1, 2, 5, 9, 10, 14], [5, 9, 10], [5, 10], [5, 10], [10, 11]]
noncomputable def zy56 : EnvT := ⟨Tryz.prog, zt [(78, zf5), (91, zl1), (93, z0e), (94, zb0)]⟩
theorem zh56 : (zy56).Ok := zd ⟨zgm, zo4, z6l, zdc, trivial⟩
def za56 : Ann := ⟨[], [], [], zv56, []⟩
def zgu (a0 : Stake) (a1 : Int) (a2 : Int) (a3 : Int) (a4 : Wait) : Tr (Stake × Int) :=
  (.bind (zdt a0 a1 a2) fun v1 =>
  (.ite (v1 != 0)
    (.leaf (a0, v1))
    (.ite ((((decide (a3 < 1)) || (decide (a3 > 1125899906842624))) || (decide (a4.Height < 0))) || (decide (a4.Due < 0)))
      (.leaf (a0, 2))
      (.guard ((0 : Int) ≤ a1 ∧ (a1 : Int) < 4)
      (.guard ((0 : Int) ≤ a2 ∧ (a2 : Int) < 6)
      (.ite (decide ((A46.get a0.Shares a1 a2) < a3))
        (.leaf (a0, 7))
        (.ite ((decide (((a0.Waits.length : Nat) : Int) ≥ 60)) || (decide (a0.Next ≥ 1125899906842624)))
          (.leaf (a0, 6))
          (.guard ((0 : Int) ≤ a2 ∧ (a2 : Int) < 6)
          (.guard ((z7 a3 (a0.Validators.Tokens.get a2) (a0.Validators.Shares.get a2)).isSome = true)
          (.ite (a3 == (a0.Validators.Shares.get a2))
            (.ite ((a0.Validators.Tokens.get a2) == 0)
              (.leaf (a0, 8))
              (.bind (zin a0.Bank (a0.Validators.Tokens.get a2)) fun v2 =>
              (.ite (v2.2 != 0)
                (.leaf (a0, v2.2))
                (.guard ((0 : Int) ≤ a1 ∧ (a1 : Int) < 4)
                (.guard ((0 : Int) ≤ a2 ∧ (a2 : Int) < 6)
                (.guard ((0 : Int) ≤ a1 ∧ (a1 : Int) < 4)
                (.guard ((0 : Int) ≤ a2 ∧ (a2 : Int) < 6)
                (.guard ((zr a0.Waits).isSome = true)
                (.guard ((Sl.len (.waits ((zr a0.Waits).getD default)) + Sl.len (.waits [{ (a4 : Wait) with Number := a0.Next, D := a1, V := a2, Amount := a0.Validators.Tokens.get a2 }])) * 64 ≤ 140737488355328)
                (.leaf ((⟨v2.1, { (a0.Validators : Validators) with Tokens := (a0.Validators.Tokens.set a2 (IntKind.i64.wrap ((a0.Validators.Tokens.get a2) - (a0.Validators.Tokens.get a2)))), Shares := (a0.Validators.Shares.set a2 (IntKind.i64.wrap ((a0.Validators.Shares.get a2) - a3))) }, (A46.set a0.Shares a1 a2 (IntKind.i64.wrap ((A46.get a0.Shares a1 a2) - a3))), ((zr a0.Waits).getD default) ++ [{ (a4 : Wait) with Number := a0.Next, D := a1, V := a2, Amount := a0.Validators.Tokens.get a2 }], IntKind.i64.wrap (a0.Next + 1)⟩ : Stake), 0)))))))))))
            (.ite ((((z7 a3 (a0.Validators.Tokens.get a2) (a0.Validators.Shares.get a2)).getD default).1) == 0)
              (.leaf (a0, 8))
              (.bind (zin a0.Bank (((z7 a3 (a0.Validators.Tokens.get a2) (a0.Validators.Shares.get a2)).getD default).1)) fun v3 =>
              (.ite (v3.2 != 0)
                (.leaf (a0, v3.2))
                (.guard ((0 : Int) ≤ a1 ∧ (a1 : Int) < 4)
                (.guard ((0 : Int) ≤ a2 ∧ (a2 : Int) < 6)
                (.guard ((0 : Int) ≤ a1 ∧ (a1 : Int) < 4)
                (.guard ((0 : Int) ≤ a2 ∧ (a2 : Int) < 6)
                (.guard ((zr a0.Waits).isSome = true)
                (.guard ((Sl.len (.waits ((zr a0.Waits).getD default)) + Sl.len (.waits [{ (a4 : Wait) with Number := a0.Next, D := a1, V := a2, Amount := ((z7 a3 (a0.Validators.Tokens.get a2) (a0.Validators.Shares.get a2)).getD default).1 }])) * 64 ≤ 140737488355328)
                (.leaf ((⟨v3.1, { (a0.Validators : Validators) with Tokens := (a0.Validators.Tokens.set a2 (IntKind.i64.wrap ((a0.Validators.Tokens.get a2) - (((z7 a3 (a0.Validators.Tokens.get a2) (a0.Validators.Shares.get a2)).getD default).1)))), Shares := (a0.Validators.Shares.set a2 (IntKind.i64.wrap ((a0.Validators.Shares.get a2) - a3))) }, (A46.set a0.Shares a1 a2 (IntKind.i64.wrap ((A46.get a0.Shares a1 a2) - a3))), ((zr a0.Waits).getD default) ++ [{ (a4 : Wait) with Number := a0.Next, D := a1, V := a2, Amount := ((z7 a3 (a0.Validators.Tokens.get a2) (a0.Validators.Shares.get a2)).getD default).1 }], IntKind.i64.wrap (a0.Next + 1)⟩ : Stake), 0)))))))))))))))))))))
def zji (a0 : Stake) (a1 : Int) (a2 : Int) (a3 : Int) (a4 : Wait) : Option (Stake × Int) := (zgu a0 a1 a2 a3 a4).run
def zr56 : LQ (Stake × Int × Int × Int × Wait) := (LQ.seq (Par.q (Par.ofLP stakeL)) (LQ.seq (Par.q intP) (LQ.seq (Par.q intP) (LQ.seq (Par.q intP) (Par.q (Par.ofLP zao3))))))
def zpd : LQ (Stake × Int) := (LQ.seq (Par.q (Par.ofLP stakeL)) (Par.q intP))
def zqn : SpecT := zu 0 zr56 5 [] (fun s => zgu s.1 s.2.1 s.2.2.1 s.2.2.2.1 s.2.2.2.2) default zpd 2 []
theorem zyw : zh Tryz.prog 77 (zqn).spec :=
  ze (A := za56) zh56 Facts.mix Tryz.func77 (c := zc56) (by kernel_rfl) (Lc := 0) trivial zr56 5 9 [] (fun s => zgu s.1 s.2.1 s.2.2.1 s.2.2.2.1 s.2.2.2.2) default zpd 2 [] [.pubB 10] (by decide) (by kernel_rfl) (by rfl) (by decide) (by decide) (by rfl)
    (by rintro ⟨a0, a1, a2, a3, a4⟩; kernel_rfl)
noncomputable def zc57 : Code := Tryz.f121.body.getD .skip
def zv57 : List (List Nat) := [[1, 2, 3, 6], [1, 2, 3, 6, 13], [6], [1, 2, 3, 6], [1, 2, 3, 6, 21, 22], [1, 2, 3, 6, 21, 22, 23], [1, 2, 3, 6, 7, 21, 22], [1, 2, 3, 6, 7, 21, 22, 34], [1, 2, 3, 6, 21, 22], [1, 2, 3, 6, 21, 22], [6]]
noncomputable def zy57 : EnvT := ⟨Tryz.prog, zt [(94, zb0)]⟩
theorem zh57 : (zy57).Ok := zd ⟨zdc, trivial⟩
def zel (x0 : Int) (x1 : Int) (x2 : Int) (x3 : Int) (x4 : Stake) (x5 : Stake) : Tr ((Int × Int × Int × Int × Stake × Stake) ⊕ (Stake × Stake)) :=
  (.ite (decide (x3 < x2))
    (.guard ((0 : Int) ≤ x3 ∧ x3 < ((Sl.len (.waits x4.Waits) : Nat) : Int))
    (.guard ((0 : Int) ≤ x0 ∧ (x0 : Int) < 2)
    (.ite (decide ((A2.get ⟨(x4.Waits.getD x3.toNat default).h0, (x4.Waits.getD x3.toNat default).h1⟩ x0) ≤ x1))
      (.guard ((0 : Int) ≤ x3 ∧ x3 < ((Sl.len (.waits x4.Waits) : Nat) : Int))
      (.guard ((0 : Int) ≤ x0 ∧ (x0 : Int) < 2)
      (.leaf (.inl (x0, x1, x2, IntKind.i64.wrap (x3 + 1), { (x4 : Stake) with Waits := x4.Waits.set x3.toNat ({ ((x4.Waits.getD x3.toNat default) : Wait) with h0 := if x0 = 0 then 0 else (x4.Waits.getD x3.toNat default).h0, h1 := if x0 = 1 then 0 else (x4.Waits.getD x3.toNat default).h1 }) }, x5)))))
      (.leaf (.inl (x0, x1, x2, IntKind.i64.wrap (x3 + 1), x4, x5))))))
    (.leaf (.inr (x4, x5))))
def zjj (x0 : Int) (x1 : Int) (x2 : Int) (x3 : Int) (x4 : Stake) (x5 : Stake) : Option (Stake × Stake) := ze1 (fun s : Int × Int × Int × Int × Stake × Stake => (zel s.1 s.2.1 s.2.2.1 s.2.2.2.1 s.2.2.2.2.1 s.2.2.2.2.2).run) (x0, x1, x2, x3, x4, x5)
def zay3 : Ann := ⟨[], [], [], zv57, []⟩
def zay4 : EndD (Int × Int × Int × Int × Stake × Stake) := ⟨(LQ.map (LQ.seq (Par.q intP) (LQ.seq (Par.q intP) (LQ.skip (LQ.const (.ptr 0 0)) (LQ.skip (LQ.const (.ptr 1 0)) (LQ.seq (Par.q intP) (LQ.seq (Par.q intP) (LQ.seq (LP.q bankL) (LQ.seq (LP.q validatorsL) (LQ.seq (LP.q (a4L (a6L (LP.one intP)))) (LQ.skip (LQ.const (.own 2)) (LQ.seq (Par.q intP) (LQ.seq (LP.q stakeL) (Par.q zmu))))))))))))) (fun x : Int × Int × Int × Int × Bank × Validators × (A4 (A6 Int)) × Int × Stake × (List Wait) => ((x.1, x.2.1, x.2.2.1, x.2.2.2.1, (⟨x.2.2.2.2.1, x.2.2.2.2.2.1, x.2.2.2.2.2.2.1, x.2.2.2.2.2.2.2.2.2, x.2.2.2.2.2.2.2.1⟩ : Stake), x.2.2.2.2.2.2.2.2.1) : Int × Int × Int × Int × Stake × Stake)) (fun y => (y.1, y.2.1, y.2.2.1, y.2.2.2.1, y.2.2.2.2.1.Bank, y.2.2.2.2.1.Validators, y.2.2.2.2.1.Shares, y.2.2.2.2.1.Next, y.2.2.2.2.2, y.2.2.2.2.1.Waits)) (fun _ => rfl)), ⟨[1, 2, 3, 6, 21, 22], [.nilcell 3 61 98 (.waits [])]⟩, [.cells 46 63, .cells 46 63, .rows 98]⟩
def zap0 : EndD (Stake × Stake) := ⟨(LQ.map (LQ.skip (LQ.const (.ptr 0 0)) (LQ.skip (LQ.const (.ptr 1 0)) (LQ.seq (LP.q bankL) (LQ.seq (LP.q validatorsL) (LQ.seq (LP.q (a4L (a6L (LP.one intP)))) (LQ.skip (LQ.const (.own 2)) (LQ.seq (Par.q intP) (LQ.seq (LP.q stakeL) (Par.q zmu))))))))) (fun x : Bank × Validators × (A4 (A6 Int)) × Int × Stake × (List Wait) => (((⟨x.1, x.2.1, x.2.2.1, x.2.2.2.2.2, x.2.2.2.1⟩ : Stake), x.2.2.2.2.1) : Stake × Stake)) (fun y => (y.1.Bank, y.1.Validators, y.1.Shares, y.1.Next, y.2, y.1.Waits)) (fun _ => rfl)), ⟨[3, 6], [.nilcell 3 61 98 (.waits [])]⟩, [.cells 46 63, .cells 46 63, .rows 98]⟩
def zatp : St → Option LR := L1 44 5 0 zay4 (.exit 0) zap0 (fun s => zel s.1 s.2.1 s.2.2.1 s.2.2.2.1 s.2.2.2.2.1 s.2.2.2.2.2)
theorem zay5 : zv (zy57).env 0 (sub zc57 [0, 1, 0, 1, 1, 1]) zatp :=
  zii (A := zay3) zh57 Facts.mix trivial (k := zdk (sub zc57 [0, 1, 0, 1, 1, 1])) (by kernel_rfl) rfl (by rintro ⟨x0, x1, x2, x3, x4, x5⟩; kernel_rfl)
def za57 : Ann := ⟨[([0, 1, 0, 1, 1, 1], zatp)], [], [], zv57, []⟩
def zke (a0 : Stake) (a1 : Int) (a2 : Int) : Tr (Stake) :=
  (.ite ((decide (a1 < 0)) || (decide (a1 ≥ 2)))
    (.leaf a0)
    (.bind (zr a0.Waits) fun v1 =>
    (.bind (zjj a1 a2 ((v1.length : Nat) : Int) 0 ({ (a0 : Stake) with Waits := v1 }) (default : Stake)) fun v2 =>
    (.leaf v2.1))))
def zgc (a0 : Stake) (a1 : Int) (a2 : Int) : Option (Stake) := (zke a0 a1 a2).run
def zr57 : LQ (Stake × Int × Int) := (LQ.seq (Par.q (Par.ofLP stakeL)) (LQ.seq (Par.q intP) (Par.q intP)))
def zt1 : LQ (Stake) := (Par.q (Par.ofLP stakeL))
def zpe : SpecT := zu 0 zr57 3 [] (fun s => zke s.1 s.2.1 s.2.2) default zt1 1 []
theorem zt2 : zh Tryz.prog 121 (zpe).spec :=
  ze (A := za57) zh57 Facts.mix Tryz.func121 (c := zc57) (by kernel_rfl) (Lc := 0) ⟨zay5, trivial⟩ zr57 3 5 [] (fun s => zke s.1 s.2.1 s.2.2) default zt1 1 [] [.pubB 6] (by decide) (by kernel_rfl) (by rfl) (by decide) (by decide) (by rfl)
    (by rintro ⟨a0, a1, a2⟩; kernel_rfl)
noncomputable def zc58 : Code := Tryz.f99.body.getD .skip
def zv58 : List (List Nat) := [[1, 2, 4], [1, 2, 4, 15], [4, 5, 6], [1, 2, 4, 7], [1, 2, 4, 7, 8], [1, 2, 4, 7, 8, 18, 19, 20], [1, 2, 4, 7, 8, 18, 19, 20, 21], [1, 2, 4, 7, 8, 10, 18, 19, 20], [1, 2, 4, 7, 8, 10, 18, 19, 20, 33], [1, 2, 4, 7, 8, 18, 19, 20], [1, 2, 4, 7, 8, 10, 11, 12, 18, 19, 20], [1, 2, 4, 7, 8, 10, 11, 12, 18, 19, 20, 49], [4, 5, 6], [1, 2, 4, 7, 8, 10, 18, 19, 20], [1, 2, 4, 7, 8, 18, 19, 20], [1, 2, 4, 7, 8, 18, 19, 20], [2, 4, 8], [4, 5, 6]]
noncomputable def zy58 : EnvT := ⟨Tryz.prog, zt [(21, zqm), (127, z7d)]⟩
theorem zh58 : (zy58).Ok := zd ⟨zte, zac9, trivial⟩
def ziu (x0 : Int) (x1 : (List Wait)) (x2 : Int) (x3 : Int) (x4 : Stake) (x5 : Stake) (x6 : (List Wait)) (x7 : (List Int)) : Tr ((Int × (List Wait) × Int × Int × Stake × Stake × (List Wait) × (List Int)) ⊕ (((List Int) × Int × Stake) ⊕ (Stake × Stake × (List Wait) × (List Int)))) :=
  (.ite (decide (x3 < x2))
    (.guard ((0 : Int) ≤ x3 ∧ x3 < ((Sl.len (.waits x1) : Nat) : Int))
    (.ite ((decide (((x1.getD x3.toNat default).Due) > x0)) || (!((((x1.getD x3.toNat default).h0) == 0) && ((((x1.getD x3.toNat default).h1) == 0) && true))))
      (.guard ((Sl.len (.waits x6) + Sl.len (.waits [(x1.getD x3.toNat default)])) * 64 ≤ 140737488355328)
      (.leaf (.inl (x0, x1, x2, IntKind.i64.wrap (x3 + 1), x4, x5, x6 ++ [(x1.getD x3.toNat default)], x7))))
      (.bind (zyu x4.Bank ((x1.getD x3.toNat default).D) ((x1.getD x3.toNat default).Amount)) fun v2 =>
      (.ite (v2.2 != 0)
        (.leaf (.inr (.inl ([], v2.2, x4))))
        (.guard ((Sl.len (.ints x7) + Sl.len (.ints [(x1.getD x3.toNat default).Number])) * 8 ≤ 140737488355328)
        (.leaf (.inl (x0, x1, x2, IntKind.i64.wrap (x3 + 1), { (x4 : Stake) with Bank := v2.1 }, x5, x6, x7 ++ [(x1.getD x3.toNat default).Number]))))))))
    (.leaf (.inr (.inr (x4, x5, x6, x7)))))
def zpf (x0 : Int) (x1 : (List Wait)) (x2 : Int) (x3 : Int) (x4 : Stake) (x5 : Stake) (x6 : (List Wait)) (x7 : (List Int)) : Option (((List Int) × Int × Stake) ⊕ (Stake × Stake × (List Wait) × (List Int))) := ze1 (fun s : Int × (List Wait) × Int × Int × Stake × Stake × (List Wait) × (List Int) => (ziu s.1 s.2.1 s.2.2.1 s.2.2.2.1 s.2.2.2.2.1 s.2.2.2.2.2.1 s.2.2.2.2.2.2.1 s.2.2.2.2.2.2.2).run) (x0, x1, x2, x3, x4, x5, x6, x7)
def zay7 : Ann := ⟨[], [], [], zv58, []⟩
def zay8 : EndD (Int × (List Wait) × Int × Int × Stake × Stake × (List Wait) × (List Int)) := ⟨(LQ.seq (Par.q intP) (LQ.skip (LQ.const (.ptr 0 0)) (LQ.skip (LQ.const (.ptr 1 0)) (LQ.skip (LQ.const (.own 2)) (LQ.skip (LQ.const (.own 3)) (LQ.seq (Par.q zmu) (LQ.seq (Par.q intP) (LQ.seq (Par.q intP) (LQ.seq (LP.q stakeL) (LQ.seq (LP.q stakeL) (LQ.seq (Par.q zmu) (Par.q zg1)))))))))))), ⟨[1, 2, 4, 7, 8, 18, 19, 20], [.nilown 7 98 (.waits []), .nilown 8 3 (.ints []), .pub 18, .nilsl 18 (.waits [])]⟩, [.cells 46 63, .cells 46 63, .rows 98, .rows 3]⟩
def zap1 : EndD ((List Int) × Int × Stake) := ⟨(LQ.skip (LQ.const (.ptr 0 0)) (LQ.seq (Par.q zg1) (LQ.seq (Par.q intP) (LP.q stakeL)))), ⟨[4, 5, 6], [.pubB 4, .pub 5, .nilsl 5 (.ints [])]⟩, [.cells 46 63]⟩
def zap2 : EndD (Stake × Stake × (List Wait) × (List Int)) := ⟨(LQ.skip (LQ.const (.ptr 0 0)) (LQ.skip (LQ.const (.ptr 1 0)) (LQ.skip (LQ.const (.own 2)) (LQ.skip (LQ.const (.own 3)) (LQ.seq (LP.q stakeL) (LQ.seq (LP.q stakeL) (LQ.seq (Par.q zmu) (Par.q zg1)))))))), ⟨[2, 4, 7, 8], [.nilown 7 98 (.waits []), .nilown 8 3 (.ints [])]⟩, [.cells 46 63, .cells 46 63, .rows 98, .rows 3]⟩
def zatq : St → Option LR := L2 64 10 0 zay8 .ret zap1 (.exit 0) zap2 (fun s => ziu s.1 s.2.1 s.2.2.1 s.2.2.2.1 s.2.2.2.2.1 s.2.2.2.2.2.1 s.2.2.2.2.2.2.1 s.2.2.2.2.2.2.2)
theorem zay9 : zv (zy58).env 0 (sub zc58 [0, 1, 0, 1, 1, 1, 1]) zatq :=
  zs3 (A := zay7) zh58 Facts.mix trivial (k := zdk (sub zc58 [0, 1, 0, 1, 1, 1, 1])) (by kernel_rfl) rfl rfl (by rintro ⟨x0, x1, x2, x3, x4, x5, x6, x7⟩; kernel_rfl)
def za58 : Ann := ⟨[([0, 1, 0, 1, 1, 1, 1], zatq)], [], [], zv58, []⟩
def ztf (a0 : Stake) (a1 : Int) : Tr (Stake × (List Int) × Int) :=
  (.bind (zkd a0) fun v1 =>
  (.ite (!v1)
    (.leaf (a0, [], 2))
    (.two (zpf a1 a0.Waits ((a0.Waits.length : Nat) : Int) 0 a0 (default : Stake) [] []) (fun v3 =>
      (.leaf (v3.2.2, v3.1, v3.2.1))) (fun v4 =>
      (.leaf ({ (v4.1 : Stake) with Waits := v4.2.2.1 }, v4.2.2.2, 0))))))
def zqo (a0 : Stake) (a1 : Int) : Option (Stake × (List Int) × Int) := (ztf a0 a1).run
def zr58 : LQ (Stake × Int) := (LQ.seq (Par.q (Par.ofLP stakeL)) (Par.q intP))
def z2i : LQ (Stake × (List Int) × Int) := (LQ.seq (Par.q (Par.ofLP stakeL)) (LQ.seq (Par.q zg1) (Par.q intP)))
def z4r : SpecT := zu 0 zr58 2 [] (fun s => ztf s.1 s.2) default z2i 3 []
theorem zaaz : zh Tryz.prog 99 (z4r).spec :=
  ze (A := za58) zh58 Facts.mix Tryz.func99 (c := zc58) (by kernel_rfl) (Lc := 0) ⟨zay9, trivial⟩ zr58 2 10 [] (fun s => ztf s.1 s.2) default z2i 3 [] [.pubB 4, .pub 5] (by decide) (by kernel_rfl) (by rfl) (by decide) (by decide) (by rfl)
    (by rintro ⟨a0, a1⟩; kernel_rfl)
noncomputable def zc59 : Code := Tryz.f79.body.getD .skip
def zv59 : List (List Nat) := [[1, 2, 3, 4, 8], [1, 2, 3, 4, 8, 11], [1, 2, 3, 4, 8, 11, 26], [8, 9, 10], [1, 2, 3, 4, 8, 12], [1, 2, 3, 4, 8, 12, 13, 14], [1, 2, 3, 4, 8, 12, 13, 14, 42], [8, 9, 10], [1, 2, 3, 4, 8, 12, 13, 15], [1, 2, 3, 4, 8, 12, 13, 15, 16], [1, 2, 3, 4, 8, 12, 13, 15, 16, 49, 50], [1, 2, 3, 4, 8, 12, 13, 15, 16, 49, 50, 51], [1, 2, 3, 4, 8, 12, 13, 15, 16, 17, 49, 50], [1, 2, 3, 4, 8, 12, 13, 15, 16, 18, 49, 50], [1, 2, 3, 4, 8, 12, 13, 15, 16, 18, 49, 50, 69], [1, 2, 3, 4, 8, 12, 13, 15, 16, 18, 19, 49, 50], [1, 2, 3, 4, 8, 12, 13, 15, 16, 19, 49, 50], [1, 2, 3, 4, 8, 12, 13, 15, 16, 49, 50], [1, 2, 3, 4, 8, 12, 13, 15, 16, 49, 50], [4, 8, 12, 13, 14, 15, 16, 21], [4, 8, 12, 13, 14, 15, 16, 21, 100], [8, 9, 10], [4, 8, 12, 13, 16], [4, 8, 13, 16], [8, 9, 10]]
noncomputable def zy59 : EnvT := ⟨Tryz.prog, zt [(78, zf5), (95, z15), (94, zb0), (96, z4k)]⟩
theorem zh59 : (zy59).Ok := zd ⟨zgm, z82, zdc, zaaw, trivial⟩
def zgd (x0 : Int) (x1 : Int) (x2 : Int) (x3 : Int) (x4 : Int) (x5 : Int) (x6 : Int) (x7 : Int) (x8 : Stake) (x9 : Stake) (x10 : (List Wait)) : Tr ((Int × Int × Int × Int × Int × Int × Int × Int × Stake × Stake × (List Wait)) ⊕ (Int × Int × Int × Stake × Stake × (List Wait))) :=
  (.ite (decide (x7 < x6))
    (.guard ((0 : Int) ≤ x7 ∧ x7 < ((Sl.len (.waits x10) : Nat) : Int))
    (.ite ((((x10.getD x7.toNat default).V) == x0) && (decide (((x10.getD x7.toNat default).Height) ≥ x1)))
      (.bind (zoa ((x10.getD x7.toNat default).Amount) x2) fun v4 =>
      (.leaf (.inl (x0, x1, x2, x3, x4, IntKind.i64.wrap (x5 + v4.1), x6, IntKind.i64.wrap (x7 + 1), x8, x9, x10.set x7.toNat ({ ((x10.getD x7.toNat default) : Wait) with Amount := IntKind.i64.wrap (((x10.getD x7.toNat default).Amount) - v4.1) })))))
      (.leaf (.inl (x0, x1, x2, x3, x4, x5, x6, IntKind.i64.wrap (x7 + 1), x8, x9, x10)))))
    (.leaf (.inr (x3, x4, x5, x8, x9, x10))))
def zlo (x0 : Int) (x1 : Int) (x2 : Int) (x3 : Int) (x4 : Int) (x5 : Int) (x6 : Int) (x7 : Int) (x8 : Stake) (x9 : Stake) (x10 : (List Wait)) : Option (Int × Int × Int × Stake × Stake × (List Wait)) := ze1 (fun s : Int × Int × Int × Int × Int × Int × Int × Int × Stake × Stake × (List Wait) => (zgd s.1 s.2.1 s.2.2.1 s.2.2.2.1 s.2.2.2.2.1 s.2.2.2.2.2.1 s.2.2.2.2.2.2.1 s.2.2.2.2.2.2.2.1 s.2.2.2.2.2.2.2.2.1 s.2.2.2.2.2.2.2.2.2.1 s.2.2.2.2.2.2.2.2.2.2).run) (x0, x1, x2, x3, x4, x5, x6, x7, x8, x9, x10)
def zazb : Ann := ⟨[], [], [], zv59, []⟩
def zazc : EndD (Int × Int × Int × Int × Int × Int × Int × Int × Stake × Stake × (List Wait)) := ⟨(LQ.seq (Par.q intP) (LQ.seq (Par.q intP) (LQ.seq (Par.q intP) (LQ.skip (LQ.const (.ptr 0 0)) (LQ.skip (LQ.const (.ptr 1 0)) (LQ.seq (LQ.pix1 0 7 6 5 0) (LQ.seq (Par.q intP) (LQ.skip (LQ.const (.own 2)) (LQ.seq (Par.q intP) (LQ.seq (Par.q intP) (LQ.seq (Par.q intP) (LQ.seq (LP.q stakeL) (LQ.seq (LP.q stakeL) (Par.q zmu)))))))))))))), ⟨[1, 2, 3, 4, 8, 12, 13, 15, 16, 49, 50], [.nilown 15 98 (.waits [])]⟩, [.cells 46 63, .cells 46 63, .rows 98]⟩
def zap3 : EndD (Int × Int × Int × Stake × Stake × (List Wait)) := ⟨(LQ.skip (LQ.const (.ptr 0 0)) (LQ.skip (LQ.const (.ptr 1 0)) (LQ.seq (LQ.pix1 0 7 6 5 0) (LQ.seq (Par.q intP) (LQ.skip (LQ.const (.own 2)) (LQ.seq (Par.q intP) (LQ.seq (LP.q stakeL) (LQ.seq (LP.q stakeL) (Par.q zmu))))))))), ⟨[4, 8, 12, 13, 15, 16], [.nilown 15 98 (.waits [])]⟩, [.cells 46 63, .cells 46 63, .rows 98]⟩
def zatr : St → Option LR := L1 131 6 0 zazc (.exit 0) zap3 (fun s => zgd s.1 s.2.1 s.2.2.1 s.2.2.2.1 s.2.2.2.2.1 s.2.2.2.2.2.1 s.2.2.2.2.2.2.1 s.2.2.2.2.2.2.2.1 s.2.2.2.2.2.2.2.2.1 s.2.2.2.2.2.2.2.2.2.1 s.2.2.2.2.2.2.2.2.2.2)
theorem zazd : zv (zy59).env 0 (sub zc59 [0, 1, 0, 1, 1, 1, 1, 1, 1, 1]) zatr :=
  zii (A := zazb) zh59 Facts.mix trivial (k := zdk (sub zc59 [0, 1, 0, 1, 1, 1, 1, 1, 1, 1])) (by kernel_rfl) rfl (by rintro ⟨x0, x1, x2, x3, x4, x5, x6, x7, x8, x9, x10⟩; kernel_rfl)
def za59 : Ann := ⟨[([0, 1, 0, 1, 1, 1, 1, 1, 1, 1], zatr)], [], [], zv59, []⟩
def zoq (a0 : Stake) (a1 : Int) (a2 : Int) (a3 : Int) : Tr (Stake × Int × Int) :=
  (.bind (zdt a0 0 a1) fun v1 =>
  (.ite (v1 != 0)
    (.leaf (a0, 0, v1))
    (.guard ((0 : Int) ≤ a1 ∧ (a1 : Int) < 6)
    (.bind (zoa (a0.Validators.Tokens.get a1) a3) fun v2 =>
    (.ite (v2.2 != 0)
      (.leaf (a0, 0, v2.2))
      (.bind (zr a0.Waits) fun v3 =>
      (.bind (zlo a1 a2 a3 a1 v2.1 0 ((v3.length : Nat) : Int) 0 a0 (default : Stake) v3) fun v5 =>
      (.bind (zu1 v5.2.2.2.1.Bank v5.2.1 v5.2.2.1) fun v6 =>
      (.ite (v6.2 != 0)
        (.leaf (v5.2.2.2.1, 0, v6.2))
        (.leaf ((⟨v6.1, { (v5.2.2.2.1.Validators : Validators) with Tokens := (v5.2.2.2.1.Validators.Tokens.set v5.1 (IntKind.i64.wrap ((v5.2.2.2.1.Validators.Tokens.get v5.1) - v5.2.1))), Lost := (v5.2.2.2.1.Validators.Lost.set v5.1 (IntKind.i64.wrap ((IntKind.i64.wrap ((v5.2.2.2.1.Validators.Lost.get v5.1) + v5.2.1)) + v5.2.2.1))) }, v5.2.2.2.1.Shares, v5.2.2.2.2.2, v5.2.2.2.1.Next⟩ : Stake), IntKind.i64.wrap (v5.2.1 + v5.2.2.1), 0)))))))))))
def zgn (a0 : Stake) (a1 : Int) (a2 : Int) (a3 : Int) : Option (Stake × Int × Int) := (zoq a0 a1 a2 a3).run
def zr59 : LQ (Stake × Int × Int × Int) := (LQ.seq (Par.q (Par.ofLP stakeL)) (LQ.seq (Par.q intP) (LQ.seq (Par.q intP) (Par.q intP))))
def zxy : LQ (Stake × Int × Int) := (LQ.seq (Par.q (Par.ofLP stakeL)) (LQ.seq (Par.q intP) (Par.q intP)))
def ztg : SpecT := zu 0 zr59 4 [] (fun s => zoq s.1 s.2.1 s.2.2.1 s.2.2.2) default zxy 3 []
theorem zxz : zh Tryz.prog 79 (ztg).spec :=
  ze (A := za59) zh59 Facts.mix Tryz.func79 (c := zc59) (by kernel_rfl) (Lc := 0) ⟨zazd, trivial⟩ zr59 4 6 [] (fun s => zoq s.1 s.2.1 s.2.2.1 s.2.2.2) default zxy 3 [] [.pubB 8] (by decide) (by kernel_rfl) (by rfl) (by decide) (by decide) (by rfl)
    (by rintro ⟨a0, a1, a2, a3⟩; kernel_rfl)
noncomputable def zc60 : Code := Tryz.f123.body.getD .skip
def zv60 : List (List Nat) := [[1, 2, 4], [1, 2, 4, 6], [1, 2, 4, 6, 11], [4, 5], [1, 2, 4, 18], [4, 5], [2, 4], [4, 5]]
noncomputable def zy60 : EnvT := ⟨Tryz.prog, zt [(78, zf5)]⟩
theorem zh60 : (zy60).Ok := zd ⟨zgm, trivial⟩
def za60 : Ann := ⟨[], [], [], zv60, []⟩
def zqp (a0 : Stake) (a1 : Int) : Tr (Stake × Int) :=
  (.bind (zdt a0 0 a1) fun v1 =>
  (.ite (v1 != 0)
    (.leaf (a0, v1))
    (.guard ((0 : Int) ≤ a1 ∧ (a1 : Int) < 6)
    (.ite (a0.Validators.Jailed.get a1)
      (.leaf (a0, 14))
      (.guard ((0 : Int) ≤ a1 ∧ (a1 : Int) < 6)
      (.leaf ({ (a0 : Stake) with Validators := { (a0.Validators : Validators) with Jailed := (a0.Validators.Jailed.set a1 true) } }, 0)))))))
def zkf (a0 : Stake) (a1 : Int) : Option (Stake × Int) := (zqp a0 a1).run
def zr60 : LQ (Stake × Int) := (LQ.seq (Par.q (Par.ofLP stakeL)) (Par.q intP))
def z0l : LQ (Stake × Int) := (LQ.seq (Par.q (Par.ofLP stakeL)) (Par.q intP))
def z2j : SpecT := zu 0 zr60 2 [] (fun s => zqp s.1 s.2) default z0l 2 []
theorem z85 : zh Tryz.prog 123 (z2j).spec :=
  ze (A := za60) zh60 Facts.mix Tryz.func123 (c := zc60) (by kernel_rfl) (Lc := 0) trivial zr60 2 4 [] (fun s => zqp s.1 s.2) default z0l 2 [] [.pubB 4] (by decide) (by kernel_rfl) (by rfl) (by decide) (by decide) (by rfl)
    (by rintro ⟨a0, a1⟩; kernel_rfl)
noncomputable def zc61 : Code := Tryz.f62.body.getD .skip
def zv61 : List (List Nat) := [[1, 2, 4], [1, 2, 4, 6], [1, 2, 4, 6, 12], [4, 5], [2, 4, 7], [2, 4], [2, 4, 7, 21], [4, 5], [2, 4, 7, 27], [4, 5], [4, 5]]
noncomputable def zy61 : EnvT := ⟨Tryz.prog, zt [(78, zf5)]⟩
theorem zh61 : (zy61).Ok := zd ⟨zgm, trivial⟩
def za61 : Ann := ⟨[], [], [], zv61, []⟩
def zmb (a0 : Stake) (a1 : Int) : Tr (Stake × Int) :=
  (.bind (zdt a0 0 a1) fun v1 =>
  (.ite (v1 != 0)
    (.leaf (a0, v1))
    (.guard ((0 : Int) ≤ a1 ∧ (a1 : Int) < 6)
    (.ite (a0.Validators.Dead.get a1)
      (.leaf (a0, 15))
      (.ite (!(a0.Validators.Jailed.get a1))
        (.leaf (a0, 4))
        (.leaf ({ (a0 : Stake) with Validators := { (a0.Validators : Validators) with Jailed := (a0.Validators.Jailed.set a1 false) } }, 0)))))))
def zpg (a0 : Stake) (a1 : Int) : Option (Stake × Int) := (zmb a0 a1).run
def zr61 : LQ (Stake × Int) := (LQ.seq (Par.q (Par.ofLP stakeL)) (Par.q intP))
def zu9 : LQ (Stake × Int) := (LQ.seq (Par.q (Par.ofLP stakeL)) (Par.q intP))
def zx0 : SpecT := zu 0 zr61 2 [] (fun s => zmb s.1 s.2) default zu9 2 []
theorem z4s : zh Tryz.prog 62 (zx0).spec :=
  ze (A := za61) zh61 Facts.mix Tryz.func62 (c := zc61) (by kernel_rfl) (Lc := 0) trivial zr61 2 4 [] (fun s => zmb s.1 s.2) default zu9 2 [] [.pubB 4] (by decide) (by kernel_rfl) (by rfl) (by decide) (by decide) (by rfl)
    (by rintro ⟨a0, a1⟩; kernel_rfl)
noncomputable def zc62 : Code := Tryz.f80.body.getD .skip
def zv62 : List (List Nat) := [[1, 2, 4], [1, 2, 4, 6], [1, 2, 4, 6, 11], [4, 5], [1, 2, 4, 18], [4, 5], [2, 4], [4, 5]]
noncomputable def zy62 : EnvT := ⟨Tryz.prog, zt [(78, zf5)]⟩
theorem zh62 : (zy62).Ok := zd ⟨zgm, trivial⟩
def za62 : Ann := ⟨[], [], [], zv62, []⟩
def zqq (a0 : Stake) (a1 : Int) : Tr (Stake × Int) :=
  (.bind (zdt a0 0 a1) fun v1 =>
  (.ite (v1 != 0)
    (.leaf (a0, v1))
    (.guard ((0 : Int) ≤ a1 ∧ (a1 : Int) < 6)
    (.ite (a0.Validators.Dead.get a1)
      (.leaf (a0, 15))
      (.guard ((0 : Int) ≤ a1 ∧ (a1 : Int) < 6)
      (.guard ((0 : Int) ≤ a1 ∧ (a1 : Int) < 6)
      (.leaf ({ (a0 : Stake) with Validators := { (a0.Validators : Validators) with Jailed := (a0.Validators.Jailed.set a1 true), Dead := (a0.Validators.Dead.set a1 true) } }, 0))))))))
def zkg (a0 : Stake) (a1 : Int) : Option (Stake × Int) := (zqq a0 a1).run
def zr62 : LQ (Stake × Int) := (LQ.seq (Par.q (Par.ofLP stakeL)) (Par.q intP))
def z0m : LQ (Stake × Int) := (LQ.seq (Par.q (Par.ofLP stakeL)) (Par.q intP))
def zva : SpecT := zu 0 zr62 2 [] (fun s => zqq s.1 s.2) default z0m 2 []
theorem z0n : zh Tryz.prog 80 (zva).spec :=
  ze (A := za62) zh62 Facts.mix Tryz.func80 (c := zc62) (by kernel_rfl) (Lc := 0) trivial zr62 2 4 [] (fun s => zqq s.1 s.2) default z0m 2 [] [.pubB 4] (by decide) (by kernel_rfl) (by rfl) (by decide) (by decide) (by rfl)
    (by rintro ⟨a0, a1⟩; kernel_rfl)
end
end Go.Proofs.YtmakmlnfbdablaaGreat.Ab
