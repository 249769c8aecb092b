/-
  The functions, each by its tree.
-/
import Derived.Test.YtmakmlnfbdablaaGreatXAbFun
import Derived.Test.YtmakmlnfbdablaaGreatXAbStructs
import Derived.Test.YtmakmlnfbdablaaGreatXFBank
import Derived.Test.YtmakmlnfbdablaaGreatXFLine
import Derived.Test.YtmakmlnfbdablaaGreatXFRatio
import Derived.Test.YtmakmlnfbdablaaGreatXFacts
namespace Go.Proofs.YtmakmlnfbdablaaGreat.Ab
open Go Go.RowKit
set_option maxRecDepth 100000
set_option linter.unusedVariables false
set_option linter.unusedSimpArgs false
noncomputable section
noncomputable def zc52 : Code := Tryz.f66.body.getD .skip
def zv52 : List (List Nat) := [[0], [0]]
noncomputable def zy52 : EnvT := ⟨Tryz.prog, zr [(89, z8g)]⟩
theorem zh52 : (zy52).Ok := ze ⟨zaek, trivial⟩
def za52 : Ann := ⟨[], [], [], zv52, []⟩
def zt5  : Tr (Stake) :=
  (.bind (zzv) fun v1 =>
  (.leaf (⟨v1, (default : Validators), (⟨(⟨0, 0, 0, 0, 0, 0⟩ : (A6 Int)), (⟨0, 0, 0, 0, 0, 0⟩ : (A6 Int)), (⟨0, 0, 0, 0, 0, 0⟩ : (A6 Int)), (⟨0, 0, 0, 0, 0, 0⟩ : (A6 Int))⟩ : (A4 (A6 Int))), [], 1⟩ : Stake)))
def zwj  : Option (Stake) := (zt5 ).run
def zr52 : LQ (Unit) := LQ.nil
def z3a : LQ (Stake) := (Par.q (Par.ofLP stakeL))
def z5s : SpecT := zv 0 zr52 0 [] (fun s => zt5 ) default z3a 1 []
theorem zacb : zi Tryz.prog 66 (z5s).spec :=
  zf (A := za52) zh52 Facts.mix Tryz.func66 (c := zc52) (by kernel_rfl) (Lc := 0) trivial zr52 0 3 [] (fun s => zt5 ) default z3a 1 [] [.pubB 0] (by decide) (by kernel_rfl) (by rfl) (by decide) (by decide) (by rfl)
    (by rintro _; kernel_rfl)
noncomputable def zc53 : Code := Tryz.f21.body.getD .skip
def zv53 : List (List Nat) := [[1], [1, 31], [2], [1, 3, 4, 5], [1, 3, 4, 5, 33, 34], [1, 3, 4, 5, 33, 34, 35], [1, 3, 4, 5, 6, 7, 33, 34], [1, 3, 4, 5, 6, 7, 33, 34, 72], [2], [1, 3, 4, 5, 6, 7, 8, 33, 34], [1, 3, 4, 5, 6, 7, 8, 33, 34, 73], [1, 3, 4, 5, 6, 7, 8, 33, 34, 73, 74], [1, 3, 4, 5, 6, 7, 8, 9, 33, 34, 73], [1, 3, 4, 5, 6, 7, 8, 9, 33, 34, 73, 83], [2], [1, 3, 4, 5, 6, 7, 8, 33, 34, 73], [1, 3, 4, 5, 6, 7, 8, 33, 34, 73], [1, 3, 4, 5, 7, 33, 34, 96], [2], [1, 3, 4, 5, 33, 34], [1, 3, 4, 5, 33, 34], [1, 3, 4, 5, 107, 108, 109], [1, 3, 4, 5, 107, 108, 109, 110], [1, 3, 4, 5, 10, 11, 107, 108, 109], [1, 3, 4, 5, 11, 107, 108, 109, 175], [2], [1, 3, 4, 5, 107, 108, 109], [1, 3, 4, 5, 107, 108, 109], [2]]
noncomputable def zy53 : EnvT := ⟨Tryz.prog, zr [(50, zjw), (51, zkb)]⟩
theorem zh53 : (zy53).Ok := ze ⟨zkc, zjv, trivial⟩
def zfr (x0 : Int) (x1 : Int) (x2 : Int) (x3 : Int) (x4 : Int) (x5 : (A6 zd)) (x6 : Int) (x7 : Int) (x8 : Stake) (x9 : zd) : Tr ((Int × Int × Int × Int × Int × (A6 zd) × Int × Int × Stake × zd) ⊕ ((Bool) ⊕ (Int × Int × Int × Int × (A6 zd) × Int × Stake × zd))) :=
  (.ite (decide (x7 < 4))
    (.guard ((0 : Int) ≤ x7 ∧ (x7 : Int) < 4)
    (.guard ((0 : Int) ≤ x3 ∧ (x3 : Int) < 6)
    (.bind (z9 (A46.get x8.Shares x7 x3)) fun v3 =>
    (.ite (!v3)
      (.leaf (.inr (.inl false)))
      (.guard ((0 : Int) ≤ x7 ∧ (x7 : Int) < 4)
      (.guard ((0 : Int) ≤ x3 ∧ (x3 : Int) < 6)
      (.leaf (.inl (x0, x1, x2, x3, IntKind.i64.wrap (x4 + (A46.get x8.Shares x7 x3)), x5, x6, IntKind.i64.wrap (x7 + 1), x8, x9)))))))))
    (.leaf (.inr (.inr (x0, x1, x2, x4, x5, x6, x8, x9)))))
def zn4 (x0 : Int) (x1 : Int) (x2 : Int) (x3 : Int) (x4 : Int) (x5 : (A6 zd)) (x6 : Int) (x7 : Int) (x8 : Stake) (x9 : zd) : Option ((Bool) ⊕ (Int × Int × Int × Int × (A6 zd) × Int × Stake × zd)) := zeh (fun s : Int × Int × Int × Int × Int × (A6 zd) × Int × Int × Stake × zd => (zfr s.1 s.2.1 s.2.2.1 s.2.2.2.1 s.2.2.2.2.1 s.2.2.2.2.2.1 s.2.2.2.2.2.2.1 s.2.2.2.2.2.2.2.1 s.2.2.2.2.2.2.2.2.1 s.2.2.2.2.2.2.2.2.2).run) (x0, x1, x2, x3, x4, x5, x6, x7, x8, x9)
def za1w : Ann := ⟨[], [], [], zv53, []⟩
def za1x : EndD (Int × Int × Int × Int × Int × (A6 zd) × Int × Int × Stake × zd) := ⟨(LQ.skip (LQ.const (.ptr 0 0)) (LQ.seq (Par.q intP) (LQ.seq (Par.q intP) (LQ.seq (Par.q intP) (LQ.seq (Par.q intP) (LQ.skip (LQ.const (.ptr 1 0)) (LQ.seq (Par.q intP) (LQ.seq (Par.q (Par.ofLP (a6L zaf))) (LQ.seq (Par.q intP) (LQ.seq (Par.q intP) (LQ.seq (LP.q stakeL) (LP.q zaf)))))))))))), ⟨[1, 3, 4, 5, 6, 7, 8, 33, 34, 73], []⟩, [.cells 46 63, .cells 40 5]⟩
def zar3 : EndD (Bool) := ⟨(Par.q boolP), ⟨[2], []⟩, []⟩
def zar4 : EndD (Int × Int × Int × Int × (A6 zd) × Int × Stake × zd) := ⟨(LQ.skip (LQ.const (.ptr 0 0)) (LQ.seq (Par.q intP) (LQ.seq (Par.q intP) (LQ.seq (Par.q intP) (LQ.skip (LQ.const (.ptr 1 0)) (LQ.seq (Par.q intP) (LQ.seq (Par.q (Par.ofLP (a6L zaf))) (LQ.seq (Par.q intP) (LQ.seq (LP.q stakeL) (LP.q zaf)))))))))), ⟨[1, 3, 4, 5, 7, 8, 33, 34], []⟩, [.cells 46 63, .cells 40 5]⟩
def zav5 : St → Option LR := L2 200 4 0 za1x .ret zar3 (.exit 2) zar4 (fun s => zfr s.1 s.2.1 s.2.2.1 s.2.2.2.1 s.2.2.2.2.1 s.2.2.2.2.2.1 s.2.2.2.2.2.2.1 s.2.2.2.2.2.2.2.1 s.2.2.2.2.2.2.2.2.1 s.2.2.2.2.2.2.2.2.2)
theorem za1y : zq (zy53).env 0 (sub zc53 [0, 1, 0, 1, 1, 1, 0, 0, 1, 1, 0, 0, 1, 0, 1, 1, 1]) zav5 :=
  zn2 (A := za1w) zh53 Facts.mix trivial (k := zci (sub zc53 [0, 1, 0, 1, 1, 1, 0, 0, 1, 1, 0, 0, 1, 0, 1, 1, 1])) (by kernel_rfl) rfl rfl (by rintro ⟨x0, x1, x2, x3, x4, x5, x6, x7, x8, x9⟩; kernel_rfl)
def zfs (x0 : Int) (x1 : Int) (x2 : Int) (x3 : (A6 zd)) (x4 : Int) (x5 : Stake) : Tr ((Int × Int × Int × (A6 zd) × Int × Stake) ⊕ ((Bool) ⊕ (Int × Int × Int × Stake))) :=
  (.ite (decide (x4 < 6))
    (.guard ((0 : Int) ≤ x4 ∧ (x4 : Int) < 6)
    (.bind (z9 (A6.get ⟨x3.x0.Tokens, x3.x1.Tokens, x3.x2.Tokens, x3.x3.Tokens, x3.x4.Tokens, x3.x5.Tokens⟩ x4)) fun v2 =>
    (.guard (((!v2) = false → ((z9 (A6.get ⟨x3.x0.Shares, x3.x1.Shares, x3.x2.Shares, x3.x3.Shares, x3.x4.Shares, x3.x5.Shares⟩ x4)).isSome = true) ∧ True))
    (.guard ((((!v2) || (!((z9 (A6.get ⟨x3.x0.Shares, x3.x1.Shares, x3.x2.Shares, x3.x3.Shares, x3.x4.Shares, x3.x5.Shares⟩ x4)).getD default))) = false → ((z9 (A6.get ⟨x3.x0.Lost, x3.x1.Lost, x3.x2.Lost, x3.x3.Lost, x3.x4.Lost, x3.x5.Lost⟩ x4)).isSome = true) ∧ True))
    (.ite (((((!v2) || (!((z9 (A6.get ⟨x3.x0.Shares, x3.x1.Shares, x3.x2.Shares, x3.x3.Shares, x3.x4.Shares, x3.x5.Shares⟩ x4)).getD default))) || (!((z9 (A6.get ⟨x3.x0.Lost, x3.x1.Lost, x3.x2.Lost, x3.x3.Lost, x3.x4.Lost, x3.x5.Lost⟩ x4)).getD default))) || (((A6.get ⟨x3.x0.Shares, x3.x1.Shares, x3.x2.Shares, x3.x3.Shares, x3.x4.Shares, x3.x5.Shares⟩ x4) == 0) && (decide ((A6.get ⟨x3.x0.Tokens, x3.x1.Tokens, x3.x2.Tokens, x3.x3.Tokens, x3.x4.Tokens, x3.x5.Tokens⟩ x4) > 0)))) || ((A6.get ⟨x3.x0.Dead, x3.x1.Dead, x3.x2.Dead, x3.x3.Dead, x3.x4.Dead, x3.x5.Dead⟩ x4) && (!(A6.get ⟨x3.x0.Jailed, x3.x1.Jailed, x3.x2.Jailed, x3.x3.Jailed, x3.x4.Jailed, x3.x5.Jailed⟩ x4))))
      (.leaf (.inr (.inl false)))
      (.two (zn4 x0 x1 x2 x4 0 x3 x4 0 x5 (⟨A6.get ⟨x3.x0.Tokens, x3.x1.Tokens, x3.x2.Tokens, x3.x3.Tokens, x3.x4.Tokens, x3.x5.Tokens⟩ x4, A6.get ⟨x3.x0.Shares, x3.x1.Shares, x3.x2.Shares, x3.x3.Shares, x3.x4.Shares, x3.x5.Shares⟩ x4, A6.get ⟨x3.x0.Lost, x3.x1.Lost, x3.x2.Lost, x3.x3.Lost, x3.x4.Lost, x3.x5.Lost⟩ x4, A6.get ⟨x3.x0.Jailed, x3.x1.Jailed, x3.x2.Jailed, x3.x3.Jailed, x3.x4.Jailed, x3.x5.Jailed⟩ x4, A6.get ⟨x3.x0.Dead, x3.x1.Dead, x3.x2.Dead, x3.x3.Dead, x3.x4.Dead, x3.x5.Dead⟩ x4⟩ : zd)) (fun v4 =>
        (.leaf (.inr (.inl v4)))) (fun v5 =>
        (.ite (v5.2.2.2.1 != v5.2.2.2.2.2.2.2.Shares)
          (.leaf (.inr (.inl false)))
          (.leaf (.inl (IntKind.i64.wrap (v5.1 + v5.2.2.2.2.2.2.2.Tokens), v5.2.1, IntKind.i64.wrap (v5.2.2.1 + v5.2.2.2.2.2.2.2.Lost), v5.2.2.2.2.1, IntKind.i64.wrap (v5.2.2.2.2.2.1 + 1), v5.2.2.2.2.2.2.1)))))))))))
    (.leaf (.inr (.inr (x0, x1, x2, (⟨x5.Bank, x5.Validators, x5.Shares, x5.Waits, x5.Next⟩ : Stake))))))
def zn5 (x0 : Int) (x1 : Int) (x2 : Int) (x3 : (A6 zd)) (x4 : Int) (x5 : Stake) : Option ((Bool) ⊕ (Int × Int × Int × Stake)) := zeh (fun s : Int × Int × Int × (A6 zd) × Int × Stake => (zfs s.1 s.2.1 s.2.2.1 s.2.2.2.1 s.2.2.2.2.1 s.2.2.2.2.2).run) (x0, x1, x2, x3, x4, x5)
def za1z : Ann := ⟨[([0, 1, 0, 1, 1, 1, 0, 0, 1, 1, 0, 0, 1, 0, 1, 1, 1], zav5)], [], [], zv53, []⟩
def za2a : EndD (Int × Int × Int × (A6 zd) × Int × Stake) := ⟨(LQ.skip (LQ.const (.ptr 0 0)) (LQ.seq (Par.q intP) (LQ.seq (Par.q intP) (LQ.seq (Par.q intP) (LQ.seq (Par.q (Par.ofLP (a6L zaf))) (LQ.seq (Par.q intP) (LP.q stakeL))))))), ⟨[1, 3, 4, 5, 33, 34], []⟩, [.cells 46 63]⟩
def zar5 : EndD (Bool) := ⟨(Par.q boolP), ⟨[2], []⟩, []⟩
def zar6 : EndD (Int × Int × Int × Stake) := ⟨(LQ.skip (LQ.const (.ptr 0 0)) (LQ.seq (Par.q intP) (LQ.seq (Par.q intP) (LQ.seq (Par.q intP) (LP.q stakeL))))), ⟨[1, 3, 4, 5], []⟩, [.cells 46 63]⟩
def zav6 : St → Option LR := L2 200 4 0 za2a .ret zar5 (.exit 0) zar6 (fun s => zfs s.1 s.2.1 s.2.2.1 s.2.2.2.1 s.2.2.2.2.1 s.2.2.2.2.2)
theorem za2b : zq (zy53).env 0 (sub zc53 [0, 1, 0, 1, 1, 1]) zav6 :=
  zn2 (A := za1z) zh53 Facts.mix ⟨za1y, trivial⟩ (k := zci (sub zc53 [0, 1, 0, 1, 1, 1])) (by kernel_rfl) rfl rfl (by rintro ⟨x0, x1, x2, x3, x4, x5⟩; kernel_rfl)
def zhk (x0 : Int) (x1 : Int) (x2 : Int) (x3 : (List Wait)) (x4 : Int) (x5 : Int) (x6 : Stake) : Tr ((Int × Int × Int × (List Wait) × Int × Int × Stake) ⊕ ((Bool) ⊕ (Int × Int × Int × Stake))) :=
  (.ite (decide (x5 < x4))
    (.guard ((0 : Int) ≤ x5 ∧ x5 < ((Sl.len (.waits x3) : Nat) : Int))
    (.guard (((decide (x5 > 0)) = true → (((decide (((x3.getD x5.toNat default).Number) < 1)) || (decide (((x3.getD x5.toNat default).Number) ≥ x6.Next))) = false → ((0 : Int) ≤ (IntKind.i64.wrap (x5 - 1)) ∧ (IntKind.i64.wrap (x5 - 1)) < ((Sl.len (.waits x6.Waits) : Nat) : Int)) ∧ True)))
    (.guard (((((((((decide (((x3.getD x5.toNat default).Number) < 1)) || (decide (((x3.getD x5.toNat default).Number) ≥ x6.Next))) || ((decide (x5 > 0)) && (decide (((x6.Waits.getD ((IntKind.i64.wrap (x5 - 1)).toNat) default).Number) ≥ ((x3.getD x5.toNat default).Number))))) || (decide (((x3.getD x5.toNat default).D) < 0))) || (decide (((x3.getD x5.toNat default).D) ≥ 4))) || (decide (((x3.getD x5.toNat default).V) < 0))) || (decide (((x3.getD x5.toNat default).V) ≥ 6))) = false → ((z9 ((x3.getD x5.toNat default).Amount)).isSome = true) ∧ True))
    (.ite ((((((((((decide (((x3.getD x5.toNat default).Number) < 1)) || (decide (((x3.getD x5.toNat default).Number) ≥ x6.Next))) || ((decide (x5 > 0)) && (decide (((x6.Waits.getD ((IntKind.i64.wrap (x5 - 1)).toNat) default).Number) ≥ ((x3.getD x5.toNat default).Number))))) || (decide (((x3.getD x5.toNat default).D) < 0))) || (decide (((x3.getD x5.toNat default).D) ≥ 4))) || (decide (((x3.getD x5.toNat default).V) < 0))) || (decide (((x3.getD x5.toNat default).V) ≥ 6))) || (!((z9 ((x3.getD x5.toNat default).Amount)).getD default))) || (decide (((x3.getD x5.toNat default).Height) < 0))) || (decide (((x3.getD x5.toNat default).Due) < 0)))
      (.leaf (.inr (.inl false)))
      (.leaf (.inl (x0, IntKind.i64.wrap (x1 + ((x3.getD x5.toNat default).Amount)), x2, x3, x4, IntKind.i64.wrap (x5 + 1), x6)))))))
    (.leaf (.inr (.inr (x0, x1, x2, x6)))))
def zjj (x0 : Int) (x1 : Int) (x2 : Int) (x3 : (List Wait)) (x4 : Int) (x5 : Int) (x6 : Stake) : Option ((Bool) ⊕ (Int × Int × Int × Stake)) := zeh (fun s : Int × Int × Int × (List Wait) × Int × Int × Stake => (zhk s.1 s.2.1 s.2.2.1 s.2.2.2.1 s.2.2.2.2.1 s.2.2.2.2.2.1 s.2.2.2.2.2.2).run) (x0, x1, x2, x3, x4, x5, x6)
def za2c : Ann := ⟨[], [], [], zv53, []⟩
def za2d : EndD (Int × Int × Int × (List Wait) × Int × Int × Stake) := ⟨(LQ.skip (LQ.const (.ptr 0 0)) (LQ.seq (Par.q intP) (LQ.seq (Par.q intP) (LQ.seq (Par.q intP) (LQ.seq (Par.q znf) (LQ.seq (Par.q intP) (LQ.seq (Par.q intP) (LP.q stakeL)))))))), ⟨[1, 3, 4, 5, 107, 108, 109], [.pub 107, .nilsl 107 (.waits [])]⟩, [.cells 46 63]⟩
def zar7 : EndD (Bool) := ⟨(Par.q boolP), ⟨[2], []⟩, []⟩
def zar8 : EndD (Int × Int × Int × Stake) := ⟨(LQ.skip (LQ.const (.ptr 0 0)) (LQ.seq (Par.q intP) (LQ.seq (Par.q intP) (LQ.seq (Par.q intP) (LP.q stakeL))))), ⟨[1, 3, 4, 5], []⟩, [.cells 46 63]⟩
def zav7 : St → Option LR := L2 200 4 0 za2d .ret zar7 (.exit 4) zar8 (fun s => zhk s.1 s.2.1 s.2.2.1 s.2.2.2.1 s.2.2.2.2.1 s.2.2.2.2.2.1 s.2.2.2.2.2.2)
theorem za2e : zq (zy53).env 0 (sub zc53 [0, 1, 0, 1, 1, 1, 1]) zav7 :=
  zn2 (A := za2c) zh53 Facts.mix trivial (k := zci (sub zc53 [0, 1, 0, 1, 1, 1, 1])) (by kernel_rfl) rfl rfl (by rintro ⟨x0, x1, x2, x3, x4, x5, x6⟩; kernel_rfl)
def za53 : Ann := ⟨[([0, 1, 0, 1, 1, 1], zav6), ([0, 1, 0, 1, 1, 1, 1], zav7)], [], [], zv53, []⟩
def zrb (a0 : Stake) : Tr (Bool) :=
  (.bind (zf1 a0.Bank) fun v1 =>
  (.ite ((((!v1) || (decide (a0.Next < 1))) || (decide (a0.Next > 1125899906842624))) || (decide (((a0.Waits.length : Nat) : Int) > 60)))
    (.leaf false)
    (.two (zn5 0 0 0 (⟨(⟨a0.Validators.Tokens.x0, a0.Validators.Shares.x0, a0.Validators.Lost.x0, a0.Validators.Jailed.x0, a0.Validators.Dead.x0⟩ : zd), (⟨a0.Validators.Tokens.x1, a0.Validators.Shares.x1, a0.Validators.Lost.x1, a0.Validators.Jailed.x1, a0.Validators.Dead.x1⟩ : zd), (⟨a0.Validators.Tokens.x2, a0.Validators.Shares.x2, a0.Validators.Lost.x2, a0.Validators.Jailed.x2, a0.Validators.Dead.x2⟩ : zd), (⟨a0.Validators.Tokens.x3, a0.Validators.Shares.x3, a0.Validators.Lost.x3, a0.Validators.Jailed.x3, a0.Validators.Dead.x3⟩ : zd), (⟨a0.Validators.Tokens.x4, a0.Validators.Shares.x4, a0.Validators.Lost.x4, a0.Validators.Jailed.x4, a0.Validators.Dead.x4⟩ : zd), (⟨a0.Validators.Tokens.x5, a0.Validators.Shares.x5, a0.Validators.Lost.x5, a0.Validators.Jailed.x5, a0.Validators.Dead.x5⟩ : zd)⟩ : (A6 zd)) 0 a0) (fun v6 =>
      (.leaf v6)) (fun v7 =>
      (.two (zjj v7.1 v7.2.1 v7.2.2.1 v7.2.2.2.Waits ((v7.2.2.2.Waits.length : Nat) : Int) 0 v7.2.2.2) (fun v8 =>
        (.leaf v8)) (fun v9 =>
        (.leaf (((v9.1 == v9.2.2.2.Bank.Bonded) && (v9.2.1 == v9.2.2.2.Bank.Waiting)) && (v9.2.2.1 == v9.2.2.2.Bank.Burnt)))))))))
def zku (a0 : Stake) : Option (Bool) := (zrb a0).run
def zr53 : LQ (Stake) := (Par.q (Par.ofLP stakeL))
def z1c : LQ (Bool) := (Par.q boolP)
def zrc : SpecT := zv 0 zr53 1 [] (fun s => zrb s) default z1c 1 []
theorem zt6 : zi Tryz.prog 21 (zrc).spec :=
  zf (A := za53) zh53 Facts.mix Tryz.func21 (c := zc53) (by kernel_rfl) (Lc := 0) ⟨za2b, za2e, trivial⟩ zr53 1 4 [] (fun s => zrb s) default z1c 1 [] [] (by decide) (by kernel_rfl) (by rfl) (by decide) (by decide) (by rfl)
    (by rintro a0; kernel_rfl)
noncomputable def zc54 : Code := Tryz.f78.body.getD .skip
def zv54 : List (List Nat) := [[1, 2, 3], [1, 2, 7], [6], [11], [6], [6]]
noncomputable def zy54 : EnvT := ⟨Tryz.prog, zr [(21, zrc)]⟩
theorem zh54 : (zy54).Ok := ze ⟨zt6, trivial⟩
def za54 : Ann := ⟨[], [], [], zv54, []⟩
def zpb (a0 : Stake) (a1 : Int) (a2 : Int) : Tr (Int) :=
  (.bind (zku a0) fun v1 =>
  (.ite (!v1)
    (.leaf 2)
    (.ite ((((decide (a1 < 0)) || (decide (a1 ≥ 4))) || (decide (a2 < 0))) || (decide (a2 ≥ 6)))
      (.leaf 4)
      (.leaf 0))))
def zdz (a0 : Stake) (a1 : Int) (a2 : Int) : Option (Int) := (zpb a0 a1 a2).run
def zr54 : LQ (Stake × Int × Int) := (LQ.seq (Par.q (Par.ofLP stakeL)) (LQ.seq (Par.q intP) (Par.q intP)))
def zyu : LQ (Int) := (Par.q intP)
def zge : SpecT := zv 0 zr54 3 [] (fun s => zpb s.1 s.2.1 s.2.2) default zyu 1 []
theorem zgw : zi Tryz.prog 78 (zge).spec :=
  zf (A := za54) zh54 Facts.mix Tryz.func78 (c := zc54) (by kernel_rfl) (Lc := 0) trivial zr54 3 3 [] (fun s => zpb s.1 s.2.1 s.2.2) default zyu 1 [] [] (by decide) (by kernel_rfl) (by rfl) (by decide) (by decide) (by rfl)
    (by rintro ⟨a0, a1, a2⟩; kernel_rfl)
noncomputable def zc55 : Code := Tryz.f76.body.getD .skip
def zv55 : List (List Nat) := [[1, 2, 3, 4, 8], [1, 2, 3, 4, 8, 10], [1, 2, 3, 4, 8, 10, 22], [8, 9], [1, 2, 3, 4, 8, 11], [1, 2, 3, 4, 8, 11, 31], [8, 9], [1, 2, 3, 4, 8, 11, 38], [8, 9], [1, 2, 3, 4, 8, 11, 12], [1, 2, 3, 4, 8, 11, 12, 45], [1, 2, 3, 4, 8, 11, 50], [8, 9], [1, 2, 3, 4, 8, 11, 13, 14], [1, 2, 3, 4, 8, 11, 13, 75], [8, 9], [1, 2, 3, 4, 8, 11, 12], [1, 2, 3, 4, 8, 11, 12, 79], [8, 9], [1, 2, 3, 4, 8, 11, 12, 15, 16], [1, 2, 3, 4, 8, 11, 12, 15, 16, 90], [8, 9], [1, 2, 3, 4, 8, 11, 12], [1, 2, 4, 8, 12], [4, 8], [8, 9]]
noncomputable def zy55 : EnvT := ⟨Tryz.prog, zr [(78, zge), (91, zmk), (92, z5k)]⟩
theorem zh55 : (zy55).Ok := ze ⟨zgw, zps, zab8, trivial⟩
def za55 : Ann := ⟨[], [], [], zv55, []⟩
def zjk (a0 : Stake) (a1 : Int) (a2 : Int) (a3 : Int) : Tr (Stake × Int) :=
  (.bind (zdz a0 a1 a2) fun v1 =>
  (.ite (v1 != 0)
    (.leaf (a0, v1))
    (.guard ((0 : Int) ≤ a2 ∧ (a2 : Int) < 6)
    (.ite (a0.Validators.Dead.get a2)
      (.leaf (a0, 15))
      (.ite ((decide (a3 < 1)) || (decide (a3 > 1125899906842624)))
        (.leaf (a0, 2))
        (.ite (decide ((a0.Validators.Shares.get a2) > 0))
          (.ite ((a0.Validators.Tokens.get a2) == 0)
            (.leaf (a0, 8))
            (.guard ((z6 a3 (a0.Validators.Shares.get a2) (a0.Validators.Tokens.get a2)).isSome = true)
            (.ite (((((z6 a3 (a0.Validators.Shares.get a2) (a0.Validators.Tokens.get a2)).getD default).2) != 0) || (decide ((((z6 a3 (a0.Validators.Shares.get a2) (a0.Validators.Tokens.get a2)).getD default).1) > (IntKind.i64.wrap (1125899906842624 - (a0.Validators.Shares.get a2))))))
              (.leaf (a0, 6))
              (.ite ((((z6 a3 (a0.Validators.Shares.get a2) (a0.Validators.Tokens.get a2)).getD default).1) == 0)
                (.leaf (a0, 8))
                (.bind (zq4 a0.Bank a1 a3) fun v2 =>
                (.ite (v2.2 != 0)
                  (.leaf (a0, v2.2))
                  (.guard ((0 : Int) ≤ a1 ∧ (a1 : Int) < 4)
                  (.guard ((0 : Int) ≤ a2 ∧ (a2 : Int) < 6)
                  (.guard ((0 : Int) ≤ a1 ∧ (a1 : Int) < 4)
                  (.guard ((0 : Int) ≤ a2 ∧ (a2 : Int) < 6)
                  (.leaf ((⟨v2.1, { (a0.Validators : Validators) with Tokens := (a0.Validators.Tokens.set a2 (IntKind.i64.wrap ((a0.Validators.Tokens.get a2) + a3))), Shares := (a0.Validators.Shares.set a2 (IntKind.i64.wrap ((a0.Validators.Shares.get a2) + (((z6 a3 (a0.Validators.Shares.get a2) (a0.Validators.Tokens.get a2)).getD default).1)))) }, (A46.set a0.Shares a1 a2 (IntKind.i64.wrap ((A46.get a0.Shares a1 a2) + (((z6 a3 (a0.Validators.Shares.get a2) (a0.Validators.Tokens.get a2)).getD default).1)))), a0.Waits, a0.Next⟩ : Stake), 0))))))))))))
          (.ite (a3 == 0)
            (.leaf (a0, 8))
            (.bind (zq4 a0.Bank a1 a3) fun v3 =>
            (.ite (v3.2 != 0)
              (.leaf (a0, v3.2))
              (.guard ((0 : Int) ≤ a1 ∧ (a1 : Int) < 4)
              (.guard ((0 : Int) ≤ a2 ∧ (a2 : Int) < 6)
              (.guard ((0 : Int) ≤ a1 ∧ (a1 : Int) < 4)
              (.guard ((0 : Int) ≤ a2 ∧ (a2 : Int) < 6)
              (.leaf ((⟨v3.1, { (a0.Validators : Validators) with Tokens := (a0.Validators.Tokens.set a2 (IntKind.i64.wrap ((a0.Validators.Tokens.get a2) + a3))), Shares := (a0.Validators.Shares.set a2 (IntKind.i64.wrap ((a0.Validators.Shares.get a2) + a3))) }, (A46.set a0.Shares a1 a2 (IntKind.i64.wrap ((A46.get a0.Shares a1 a2) + a3))), a0.Waits, a0.Next⟩ : Stake), 0)))))))))))))))
def zl4 (a0 : Stake) (a1 : Int) (a2 : Int) (a3 : Int) : Option (Stake × Int) := (zjk a0 a1 a2 a3).run
def zr55 : LQ (Stake × Int × Int × Int) := (LQ.seq (Par.q (Par.ofLP stakeL)) (LQ.seq (Par.q intP) (LQ.seq (Par.q intP) (Par.q intP))))
def zsz : LQ (Stake × Int) := (LQ.seq (Par.q (Par.ofLP stakeL)) (Par.q intP))
def zuu : SpecT := zv 0 zr55 4 [] (fun s => zjk s.1 s.2.1 s.2.2.1 s.2.2.2) default zsz 2 []
theorem z2a : zi Tryz.prog 76 (zuu).spec :=
  zf (A := za55) zh55 Facts.mix Tryz.func76 (c := zc55) (by kernel_rfl) (Lc := 0) trivial zr55 4 5 [] (fun s => zjk s.1 s.2.1 s.2.2.1 s.2.2.2) default zsz 2 [] [.pubB 8] (by decide) (by kernel_rfl) (by rfl) (by decide) (by decide) (by rfl)
    (by rintro ⟨a0, a1, a2, a3⟩; kernel_rfl)
noncomputable def zc56 : Code := Tryz.f77.body.getD .skip
def zv56 : List (List Nat) := [[1, 2, 3, 5, 9, 10], [1, 2, 3, 5, 9, 10, 12], [1, 2, 3, 5, 9, 10, 12, 23], [10, 11], [1, 2, 3, 5, 9, 10, 41], [10, 11], [1, 2, 3, 5, 9, 10, 50], [10, 11], [1, 2, 3, 5, 9, 10, 60], [10, 11], [1, 2, 3, 5, 9, 10, 13], [1, 2, 3, 5, 9, 10, 13, 14], [1, 2, 3, 5, 9, 10, 13, 14, 83], [1, 2, 3, 5, 9, 10, 13, 14], [1, 2, 3, 5, 9, 10, 13, 14, 89], [10, 11], [1, 2, 3, 5, 9, 10, 13, 14, 16, 17], [1, 2, 3, 5, 9, 10, 13, 14, 16, 17, 99], [10, 11], [1, 2, 3, 5, 9, 10, 13, 14], [1, 2, 3, 5, 9, 10, 14], [1, 2, 5, 9, 10, 14], [5, 9, 10], [5, 10], [5, 10], [10, 11]]
noncomputable def zy56 : EnvT := ⟨Tryz.prog, zr [(78, zge), (91, zmk), (93, z05), (94, zb3)]⟩
theorem zh56 : (zy56).Ok := ze ⟨zgw, zps, z7o, zdi, trivial⟩
def za56 : Ann := ⟨[], [], [], zv56, []⟩
def zg7 (a0 : Stake) (a1 : Int) (a2 : Int) (a3 : Int) (a4 : Wait) : Tr (Stake × Int) :=
  (.bind (zdz a0 a1 a2) fun v1 =>
  (.ite (v1 != 0)
    (.leaf (a0, v1))
    (.ite ((((decide (a3 < 1)) || (decide (a3 > 1125899906842624))) || (decide (a4.Height < 0))) || (decide (a4.Due < 0)))
      (.leaf (a0, 2))
      (.guard ((0 : Int) ≤ a1 ∧ (a1 : Int) < 4)
      (.guard ((0 : Int) ≤ a2 ∧ (a2 : Int) < 6)
      (.ite (decide ((A46.get a0.Shares a1 a2) < a3))
        (.leaf (a0, 7))
        (.ite ((decide (((a0.Waits.length : Nat) : Int) ≥ 60)) || (decide (a0.Next ≥ 1125899906842624)))
          (.leaf (a0, 6))
          (.guard ((0 : Int) ≤ a2 ∧ (a2 : Int) < 6)
          (.guard ((z6 a3 (a0.Validators.Tokens.get a2) (a0.Validators.Shares.get a2)).isSome = true)
          (.ite (a3 == (a0.Validators.Shares.get a2))
            (.ite ((a0.Validators.Tokens.get a2) == 0)
              (.leaf (a0, 8))
              (.bind (zi3 a0.Bank (a0.Validators.Tokens.get a2)) fun v2 =>
              (.ite (v2.2 != 0)
                (.leaf (a0, v2.2))
                (.guard ((0 : Int) ≤ a1 ∧ (a1 : Int) < 4)
                (.guard ((0 : Int) ≤ a2 ∧ (a2 : Int) < 6)
                (.guard ((0 : Int) ≤ a1 ∧ (a1 : Int) < 4)
                (.guard ((0 : Int) ≤ a2 ∧ (a2 : Int) < 6)
                (.guard ((zu a0.Waits).isSome = true)
                (.guard ((Sl.len (.waits ((zu a0.Waits).getD default)) + Sl.len (.waits [{ (a4 : Wait) with Number := a0.Next, D := a1, V := a2, Amount := a0.Validators.Tokens.get a2 }])) * 64 ≤ 140737488355328)
                (.leaf ((⟨v2.1, { (a0.Validators : Validators) with Tokens := (a0.Validators.Tokens.set a2 (IntKind.i64.wrap ((a0.Validators.Tokens.get a2) - (a0.Validators.Tokens.get a2)))), Shares := (a0.Validators.Shares.set a2 (IntKind.i64.wrap ((a0.Validators.Shares.get a2) - a3))) }, (A46.set a0.Shares a1 a2 (IntKind.i64.wrap ((A46.get a0.Shares a1 a2) - a3))), ((zu a0.Waits).getD default) ++ [{ (a4 : Wait) with Number := a0.Next, D := a1, V := a2, Amount := a0.Validators.Tokens.get a2 }], IntKind.i64.wrap (a0.Next + 1)⟩ : Stake), 0)))))))))))
            (.ite ((((z6 a3 (a0.Validators.Tokens.get a2) (a0.Validators.Shares.get a2)).getD default).1) == 0)
              (.leaf (a0, 8))
              (.bind (zi3 a0.Bank (((z6 a3 (a0.Validators.Tokens.get a2) (a0.Validators.Shares.get a2)).getD default).1)) fun v3 =>
              (.ite (v3.2 != 0)
                (.leaf (a0, v3.2))
                (.guard ((0 : Int) ≤ a1 ∧ (a1 : Int) < 4)
                (.guard ((0 : Int) ≤ a2 ∧ (a2 : Int) < 6)
                (.guard ((0 : Int) ≤ a1 ∧ (a1 : Int) < 4)
                (.guard ((0 : Int) ≤ a2 ∧ (a2 : Int) < 6)
                (.guard ((zu a0.Waits).isSome = true)
                (.guard ((Sl.len (.waits ((zu a0.Waits).getD default)) + Sl.len (.waits [{ (a4 : Wait) with Number := a0.Next, D := a1, V := a2, Amount := ((z6 a3 (a0.Validators.Tokens.get a2) (a0.Validators.Shares.get a2)).getD default).1 }])) * 64 ≤ 140737488355328)
                (.leaf ((⟨v3.1, { (a0.Validators : Validators) with Tokens := (a0.Validators.Tokens.set a2 (IntKind.i64.wrap ((a0.Validators.Tokens.get a2) - (((z6 a3 (a0.Validators.Tokens.get a2) (a0.Validators.Shares.get a2)).getD default).1)))), Shares := (a0.Validators.Shares.set a2 (IntKind.i64.wrap ((a0.Validators.Shares.get a2) - a3))) }, (A46.set a0.Shares a1 a2 (IntKind.i64.wrap ((A46.get a0.Shares a1 a2) - a3))), ((zu a0.Waits).getD default) ++ [{ (a4 : Wait) with Number := a0.Next, D := a1, V := a2, Amount := ((z6 a3 (a0.Validators.Tokens.get a2) (a0.Validators.Shares.get a2)).getD default).1 }], IntKind.i64.wrap (a0.Next + 1)⟩ : Stake), 0)))))))))))))))))))))
def zjx (a0 : Stake) (a1 : Int) (a2 : Int) (a3 : Int) (a4 : Wait) : Option (Stake × Int) := (zg7 a0 a1 a2 a3 a4).run
def zr56 : LQ (Stake × Int × Int × Int × Wait) := (LQ.seq (Par.q (Par.ofLP stakeL)) (LQ.seq (Par.q intP) (LQ.seq (Par.q intP) (LQ.seq (Par.q intP) (Par.q (Par.ofLP zard))))))
def zp2 : LQ (Stake × Int) := (LQ.seq (Par.q (Par.ofLP stakeL)) (Par.q intP))
def zrd : SpecT := zv 0 zr56 5 [] (fun s => zg7 s.1 s.2.1 s.2.2.1 s.2.2.2.1 s.2.2.2.2) default zp2 2 []
theorem zz0 : zi Tryz.prog 77 (zrd).spec :=
  zf (A := za56) zh56 Facts.mix Tryz.func77 (c := zc56) (by kernel_rfl) (Lc := 0) trivial zr56 5 9 [] (fun s => zg7 s.1 s.2.1 s.2.2.1 s.2.2.2.1 s.2.2.2.2) default zp2 2 [] [.pubB 10] (by decide) (by kernel_rfl) (by rfl) (by decide) (by decide) (by rfl)
    (by rintro ⟨a0, a1, a2, a3, a4⟩; kernel_rfl)
noncomputable def zc57 : Code := Tryz.f121.body.getD .skip
def zv57 : List (List Nat) := [[1, 2, 3, 6], [1, 2, 3, 6, 13], [6], [1, 2, 3, 6], [1, 2, 3, 6, 21, 22], [1, 2, 3, 6, 21, 22, 23], [1, 2, 3, 6, 7, 21, 22], [1, 2, 3, 6, 7, 21, 22, 34], [1, 2, 3, 6, 21, 22], [1, 2, 3, 6, 21, 22], [6]]
noncomputable def zy57 : EnvT := ⟨Tryz.prog, zr [(94, zb3)]⟩
theorem zh57 : (zy57).Ok := ze ⟨zdi, trivial⟩
def zeu (x0 : Int) (x1 : Int) (x2 : Int) (x3 : Int) (x4 : Stake) (x5 : Stake) : Tr ((Int × Int × Int × Int × Stake × Stake) ⊕ (Stake × Stake)) :=
  (.ite (decide (x3 < x2))
    (.guard ((0 : Int) ≤ x3 ∧ x3 < ((Sl.len (.waits x4.Waits) : Nat) : Int))
    (.guard ((0 : Int) ≤ x0 ∧ (x0 : Int) < 2)
    (.ite (decide ((A2.get ⟨(x4.Waits.getD x3.toNat default).h0, (x4.Waits.getD x3.toNat default).h1⟩ x0) ≤ x1))
      (.guard ((0 : Int) ≤ x3 ∧ x3 < ((Sl.len (.waits x4.Waits) : Nat) : Int))
      (.guard ((0 : Int) ≤ x0 ∧ (x0 : Int) < 2)
      (.leaf (.inl (x0, x1, x2, IntKind.i64.wrap (x3 + 1), { (x4 : Stake) with Waits := x4.Waits.set x3.toNat ({ ((x4.Waits.getD x3.toNat default) : Wait) with h0 := if x0 = 0 then 0 else (x4.Waits.getD x3.toNat default).h0, h1 := if x0 = 1 then 0 else (x4.Waits.getD x3.toNat default).h1 }) }, x5)))))
      (.leaf (.inl (x0, x1, x2, IntKind.i64.wrap (x3 + 1), x4, x5))))))
    (.leaf (.inr (x4, x5))))
def zjy (x0 : Int) (x1 : Int) (x2 : Int) (x3 : Int) (x4 : Stake) (x5 : Stake) : Option (Stake × Stake) := zeh (fun s : Int × Int × Int × Int × Stake × Stake => (zeu s.1 s.2.1 s.2.2.1 s.2.2.2.1 s.2.2.2.2.1 s.2.2.2.2.2).run) (x0, x1, x2, x3, x4, x5)
def za2g : Ann := ⟨[], [], [], zv57, []⟩
def za2h : EndD (Int × Int × Int × Int × Stake × Stake) := ⟨(LQ.map (LQ.seq (Par.q intP) (LQ.seq (Par.q intP) (LQ.skip (LQ.const (.ptr 0 0)) (LQ.skip (LQ.const (.ptr 1 0)) (LQ.seq (Par.q intP) (LQ.seq (Par.q intP) (LQ.seq (LP.q bankL) (LQ.seq (LP.q validatorsL) (LQ.seq (LP.q (a4L (a6L (LP.one intP)))) (LQ.skip (LQ.const (.own 2)) (LQ.seq (Par.q intP) (LQ.seq (LP.q stakeL) (Par.q znf))))))))))))) (fun x : Int × Int × Int × Int × Bank × Validators × (A4 (A6 Int)) × Int × Stake × (List Wait) => ((x.1, x.2.1, x.2.2.1, x.2.2.2.1, (⟨x.2.2.2.2.1, x.2.2.2.2.2.1, x.2.2.2.2.2.2.1, x.2.2.2.2.2.2.2.2.2, x.2.2.2.2.2.2.2.1⟩ : Stake), x.2.2.2.2.2.2.2.2.1) : Int × Int × Int × Int × Stake × Stake)) (fun y => (y.1, y.2.1, y.2.2.1, y.2.2.2.1, y.2.2.2.2.1.Bank, y.2.2.2.2.1.Validators, y.2.2.2.2.1.Shares, y.2.2.2.2.1.Next, y.2.2.2.2.2, y.2.2.2.2.1.Waits)) (fun _ => rfl)), ⟨[1, 2, 3, 6, 21, 22], [.nilcell 3 61 98 (.waits [])]⟩, [.cells 46 63, .cells 46 63, .rows 98]⟩
def zar9 : EndD (Stake × Stake) := ⟨(LQ.map (LQ.skip (LQ.const (.ptr 0 0)) (LQ.skip (LQ.const (.ptr 1 0)) (LQ.seq (LP.q bankL) (LQ.seq (LP.q validatorsL) (LQ.seq (LP.q (a4L (a6L (LP.one intP)))) (LQ.skip (LQ.const (.own 2)) (LQ.seq (Par.q intP) (LQ.seq (LP.q stakeL) (Par.q znf))))))))) (fun x : Bank × Validators × (A4 (A6 Int)) × Int × Stake × (List Wait) => (((⟨x.1, x.2.1, x.2.2.1, x.2.2.2.2.2, x.2.2.2.1⟩ : Stake), x.2.2.2.2.1) : Stake × Stake)) (fun y => (y.1.Bank, y.1.Validators, y.1.Shares, y.1.Next, y.2, y.1.Waits)) (fun _ => rfl)), ⟨[3, 6], [.nilcell 3 61 98 (.waits [])]⟩, [.cells 46 63, .cells 46 63, .rows 98]⟩
def zav8 : St → Option LR := L1 44 5 0 za2h (.exit 0) zar9 (fun s => zeu s.1 s.2.1 s.2.2.1 s.2.2.2.1 s.2.2.2.2.1 s.2.2.2.2.2)
theorem za2i : zq (zy57).env 0 (sub zc57 [0, 1, 0, 1, 1, 1]) zav8 :=
  ziy (A := za2g) zh57 Facts.mix trivial (k := zci (sub zc57 [0, 1, 0, 1, 1, 1])) (by kernel_rfl) rfl (by rintro ⟨x0, x1, x2, x3, x4, x5⟩; kernel_rfl)
def za57 : Ann := ⟨[([0, 1, 0, 1, 1, 1], zav8)], [], [], zv57, []⟩
def zkv (a0 : Stake) (a1 : Int) (a2 : Int) : Tr (Stake) :=
  (.ite ((decide (a1 < 0)) || (decide (a1 ≥ 2)))
    (.leaf a0)
    (.bind (zu a0.Waits) fun v1 =>
    (.bind (zjy a1 a2 ((v1.length : Nat) : Int) 0 ({ (a0 : Stake) with Waits := v1 }) (default : Stake)) fun v2 =>
    (.leaf v2.1))))
def zgl (a0 : Stake) (a1 : Int) (a2 : Int) : Option (Stake) := (zkv a0 a1 a2).run
def zr57 : LQ (Stake × Int × Int) := (LQ.seq (Par.q (Par.ofLP stakeL)) (LQ.seq (Par.q intP) (Par.q intP)))
def zuv : LQ (Stake) := (Par.q (Par.ofLP stakeL))
def zp3 : SpecT := zv 0 zr57 3 [] (fun s => zkv s.1 s.2.1 s.2.2) default zuv 1 []
theorem zuw : zi Tryz.prog 121 (zp3).spec :=
  zf (A := za57) zh57 Facts.mix Tryz.func121 (c := zc57) (by kernel_rfl) (Lc := 0) ⟨za2i, trivial⟩ zr57 3 5 [] (fun s => zkv s.1 s.2.1 s.2.2) default zuv 1 [] [.pubB 6] (by decide) (by kernel_rfl) (by rfl) (by decide) (by decide) (by rfl)
    (by rintro ⟨a0, a1, a2⟩; kernel_rfl)
noncomputable def zc58 : Code := Tryz.f99.body.getD .skip
def zv58 : List (List Nat) := [[1, 2, 4], [1, 2, 4, 15], [4, 5, 6], [1, 2, 4, 7], [1, 2, 4, 7, 8], [1, 2, 4, 7, 8, 18, 19, 20], [1, 2, 4, 7, 8, 18, 19, 20, 21], [1, 2, 4, 7, 8, 10, 18, 19, 20], [1, 2, 4, 7, 8, 10, 18, 19, 20, 33], [1, 2, 4, 7, 8, 18, 19, 20], [1, 2, 4, 7, 8, 10, 11, 12, 18, 19, 20], [1, 2, 4, 7, 8, 10, 11, 12, 18, 19, 20, 49], [4, 5, 6], [1, 2, 4, 7, 8, 10, 18, 19, 20], [1, 2, 4, 7, 8, 18, 19, 20], [1, 2, 4, 7, 8, 18, 19, 20], [2, 4, 8], [4, 5, 6]]
noncomputable def zy58 : EnvT := ⟨Tryz.prog, zr [(21, zrc), (127, z8i)]⟩
theorem zh58 : (zy58).Ok := ze ⟨zt6, zaem, trivial⟩
def zi9 (x0 : Int) (x1 : (List Wait)) (x2 : Int) (x3 : Int) (x4 : Stake) (x5 : Stake) (x6 : (List Wait)) (x7 : (List Int)) : Tr ((Int × (List Wait) × Int × Int × Stake × Stake × (List Wait) × (List Int)) ⊕ (((List Int) × Int × Stake) ⊕ (Stake × Stake × (List Wait) × (List Int)))) :=
  (.ite (decide (x3 < x2))
    (.guard ((0 : Int) ≤ x3 ∧ x3 < ((Sl.len (.waits x1) : Nat) : Int))
    (.ite ((decide (((x1.getD x3.toNat default).Due) > x0)) || (!((((x1.getD x3.toNat default).h0) == 0) && ((((x1.getD x3.toNat default).h1) == 0) && true))))
      (.guard ((Sl.len (.waits x6) + Sl.len (.waits [(x1.getD x3.toNat default)])) * 64 ≤ 140737488355328)
      (.leaf (.inl (x0, x1, x2, IntKind.i64.wrap (x3 + 1), x4, x5, x6 ++ [(x1.getD x3.toNat default)], x7))))
      (.bind (zzy x4.Bank ((x1.getD x3.toNat default).D) ((x1.getD x3.toNat default).Amount)) fun v2 =>
      (.ite (v2.2 != 0)
        (.leaf (.inr (.inl ([], v2.2, x4))))
        (.guard ((Sl.len (.ints x7) + Sl.len (.ints [(x1.getD x3.toNat default).Number])) * 8 ≤ 140737488355328)
        (.leaf (.inl (x0, x1, x2, IntKind.i64.wrap (x3 + 1), { (x4 : Stake) with Bank := v2.1 }, x5, x6, x7 ++ [(x1.getD x3.toNat default).Number]))))))))
    (.leaf (.inr (.inr (x4, x5, x6, x7)))))
def zp4 (x0 : Int) (x1 : (List Wait)) (x2 : Int) (x3 : Int) (x4 : Stake) (x5 : Stake) (x6 : (List Wait)) (x7 : (List Int)) : Option (((List Int) × Int × Stake) ⊕ (Stake × Stake × (List Wait) × (List Int))) := zeh (fun s : Int × (List Wait) × Int × Int × Stake × Stake × (List Wait) × (List Int) => (zi9 s.1 s.2.1 s.2.2.1 s.2.2.2.1 s.2.2.2.2.1 s.2.2.2.2.2.1 s.2.2.2.2.2.2.1 s.2.2.2.2.2.2.2).run) (x0, x1, x2, x3, x4, x5, x6, x7)
def za2k : Ann := ⟨[], [], [], zv58, []⟩
def za2l : EndD (Int × (List Wait) × Int × Int × Stake × Stake × (List Wait) × (List Int)) := ⟨(LQ.seq (Par.q intP) (LQ.skip (LQ.const (.ptr 0 0)) (LQ.skip (LQ.const (.ptr 1 0)) (LQ.skip (LQ.const (.own 2)) (LQ.skip (LQ.const (.own 3)) (LQ.seq (Par.q znf) (LQ.seq (Par.q intP) (LQ.seq (Par.q intP) (LQ.seq (LP.q stakeL) (LQ.seq (LP.q stakeL) (LQ.seq (Par.q znf) (Par.q zhg)))))))))))), ⟨[1, 2, 4, 7, 8, 18, 19, 20], [.nilown 7 98 (.waits []), .nilown 8 3 (.ints []), .pub 18, .nilsl 18 (.waits [])]⟩, [.cells 46 63, .cells 46 63, .rows 98, .rows 3]⟩
def zasa : EndD ((List Int) × Int × Stake) := ⟨(LQ.skip (LQ.const (.ptr 0 0)) (LQ.seq (Par.q zhg) (LQ.seq (Par.q intP) (LP.q stakeL)))), ⟨[4, 5, 6], [.pubB 4, .pub 5, .nilsl 5 (.ints [])]⟩, [.cells 46 63]⟩
def zasb : EndD (Stake × Stake × (List Wait) × (List Int)) := ⟨(LQ.skip (LQ.const (.ptr 0 0)) (LQ.skip (LQ.const (.ptr 1 0)) (LQ.skip (LQ.const (.own 2)) (LQ.skip (LQ.const (.own 3)) (LQ.seq (LP.q stakeL) (LQ.seq (LP.q stakeL) (LQ.seq (Par.q znf) (Par.q zhg)))))))), ⟨[2, 4, 7, 8], [.nilown 7 98 (.waits []), .nilown 8 3 (.ints [])]⟩, [.cells 46 63, .cells 46 63, .rows 98, .rows 3]⟩
def zav9 : St → Option LR := L2 64 10 0 za2l .ret zasa (.exit 0) zasb (fun s => zi9 s.1 s.2.1 s.2.2.1 s.2.2.2.1 s.2.2.2.2.1 s.2.2.2.2.2.1 s.2.2.2.2.2.2.1 s.2.2.2.2.2.2.2)
theorem za2m : zq (zy58).env 0 (sub zc58 [0, 1, 0, 1, 1, 1, 1]) zav9 :=
  zn2 (A := za2k) zh58 Facts.mix trivial (k := zci (sub zc58 [0, 1, 0, 1, 1, 1, 1])) (by kernel_rfl) rfl rfl (by rintro ⟨x0, x1, x2, x3, x4, x5, x6, x7⟩; kernel_rfl)
def za58 : Ann := ⟨[([0, 1, 0, 1, 1, 1, 1], zav9)], [], [], zv58, []⟩
def zt7 (a0 : Stake) (a1 : Int) : Tr (Stake × (List Int) × Int) :=
  (.bind (zku a0) fun v1 =>
  (.ite (!v1)
    (.leaf (a0, [], 2))
    (.two (zp4 a1 a0.Waits ((a0.Waits.length : Nat) : Int) 0 a0 (default : Stake) [] []) (fun v3 =>
      (.leaf (v3.2.2, v3.1, v3.2.1))) (fun v4 =>
      (.leaf ({ (v4.1 : Stake) with Waits := v4.2.2.1 }, v4.2.2.2, 0))))))
def zre (a0 : Stake) (a1 : Int) : Option (Stake × (List Int) × Int) := (zt7 a0 a1).run
def zr58 : LQ (Stake × Int) := (LQ.seq (Par.q (Par.ofLP stakeL)) (Par.q intP))
def z3b : LQ (Stake × (List Int) × Int) := (LQ.seq (Par.q (Par.ofLP stakeL)) (LQ.seq (Par.q zhg) (Par.q intP)))
def z5t : SpecT := zv 0 zr58 2 [] (fun s => zt7 s.1 s.2) default z3b 3 []
theorem zacc : zi Tryz.prog 99 (z5t).spec :=
  zf (A := za58) zh58 Facts.mix Tryz.func99 (c := zc58) (by kernel_rfl) (Lc := 0) ⟨za2m, trivial⟩ zr58 2 10 [] (fun s => zt7 s.1 s.2) default z3b 3 [] [.pubB 4, .pub 5] (by decide) (by kernel_rfl) (by rfl) (by decide) (by decide) (by rfl)
    (by rintro ⟨a0, a1⟩; kernel_rfl)
noncomputable def zc59 : Code := Tryz.f79.body.getD .skip
def zv59 : List (List Nat) := [[1, 2, 3, 4, 8], [1, 2, 3, 4, 8, 11], [1, 2, 3, 4, 8, 11, 26], [8, 9, 10], [1, 2, 3, 4, 8, 12], [1, 2, 3, 4, 8, 12, 13, 14], [1, 2, 3, 4, 8, 12, 13, 14, 42], [8, 9, 10], [1, 2, 3, 4, 8, 12, 13, 15], [1, 2, 3, 4, 8, 12, 13, 15, 16], [1, 2, 3, 4, 8, 12, 13, 15, 16, 49, 50], [1, 2, 3, 4, 8, 12, 13, 15, 16, 49, 50, 51], [1, 2, 3, 4, 8, 12, 13, 15, 16, 17, 49, 50], [1, 2, 3, 4, 8, 12, 13, 15, 16, 18, 49, 50], [1, 2, 3, 4, 8, 12, 13, 15, 16, 18, 49, 50, 69], [1, 2, 3, 4, 8, 12, 13, 15, 16, 18, 19, 49, 50], [1, 2, 3, 4, 8, 12, 13, 15, 16, 19, 49, 50], [1, 2, 3, 4, 8, 12, 13, 15, 16, 49, 50], [1, 2, 3, 4, 8, 12, 13, 15, 16, 49, 50], [4, 8, 12, 13, 14, 15, 16, 21], [4, 8, 12, 13, 14, 15, 16, 21, 100], [8, 9, 10], [4, 8, 12, 13, 16], [4, 8, 13, 16], [8, 9, 10]]
noncomputable def zy59 : EnvT := ⟨Tryz.prog, zr [(78, zge), (95, z2x), (94, zb3), (96, z5m)]⟩
theorem zh59 : (zy59).Ok := ze ⟨zgw, zaaa, zdi, zab9, trivial⟩
def zgm (x0 : Int) (x1 : Int) (x2 : Int) (x3 : Int) (x4 : Int) (x5 : Int) (x6 : Int) (x7 : Int) (x8 : Stake) (x9 : Stake) (x10 : (List Wait)) : Tr ((Int × Int × Int × Int × Int × Int × Int × Int × Stake × Stake × (List Wait)) ⊕ (Int × Int × Int × Stake × Stake × (List Wait))) :=
  (.ite (decide (x7 < x6))
    (.guard ((0 : Int) ≤ x7 ∧ x7 < ((Sl.len (.waits x10) : Nat) : Int))
    (.ite ((((x10.getD x7.toNat default).V) == x0) && (decide (((x10.getD x7.toNat default).Height) ≥ x1)))
      (.bind (zow ((x10.getD x7.toNat default).Amount) x2) fun v4 =>
      (.leaf (.inl (x0, x1, x2, x3, x4, IntKind.i64.wrap (x5 + v4.1), x6, IntKind.i64.wrap (x7 + 1), x8, x9, x10.set x7.toNat ({ ((x10.getD x7.toNat default) : Wait) with Amount := IntKind.i64.wrap (((x10.getD x7.toNat default).Amount) - v4.1) })))))
      (.leaf (.inl (x0, x1, x2, x3, x4, x5, x6, IntKind.i64.wrap (x7 + 1), x8, x9, x10)))))
    (.leaf (.inr (x3, x4, x5, x8, x9, x10))))
def zl5 (x0 : Int) (x1 : Int) (x2 : Int) (x3 : Int) (x4 : Int) (x5 : Int) (x6 : Int) (x7 : Int) (x8 : Stake) (x9 : Stake) (x10 : (List Wait)) : Option (Int × Int × Int × Stake × Stake × (List Wait)) := zeh (fun s : Int × Int × Int × Int × Int × Int × Int × Int × Stake × Stake × (List Wait) => (zgm s.1 s.2.1 s.2.2.1 s.2.2.2.1 s.2.2.2.2.1 s.2.2.2.2.2.1 s.2.2.2.2.2.2.1 s.2.2.2.2.2.2.2.1 s.2.2.2.2.2.2.2.2.1 s.2.2.2.2.2.2.2.2.2.1 s.2.2.2.2.2.2.2.2.2.2).run) (x0, x1, x2, x3, x4, x5, x6, x7, x8, x9, x10)
def za2o : Ann := ⟨[], [], [], zv59, []⟩
def za2p : EndD (Int × Int × Int × Int × Int × Int × Int × Int × Stake × Stake × (List Wait)) := ⟨(LQ.seq (Par.q intP) (LQ.seq (Par.q intP) (LQ.seq (Par.q intP) (LQ.skip (LQ.const (.ptr 0 0)) (LQ.skip (LQ.const (.ptr 1 0)) (LQ.seq (LQ.pix1 0 7 6 5 0) (LQ.seq (Par.q intP) (LQ.skip (LQ.const (.own 2)) (LQ.seq (Par.q intP) (LQ.seq (Par.q intP) (LQ.seq (Par.q intP) (LQ.seq (LP.q stakeL) (LQ.seq (LP.q stakeL) (Par.q znf)))))))))))))), ⟨[1, 2, 3, 4, 8, 12, 13, 15, 16, 49, 50], [.nilown 15 98 (.waits [])]⟩, [.cells 46 63, .cells 46 63, .rows 98]⟩
def zasc : EndD (Int × Int × Int × Stake × Stake × (List Wait)) := ⟨(LQ.skip (LQ.const (.ptr 0 0)) (LQ.skip (LQ.const (.ptr 1 0)) (LQ.seq (LQ.pix1 0 7 6 5 0) (LQ.seq (Par.q intP) (LQ.skip (LQ.const (.own 2)) (LQ.seq (Par.q intP) (LQ.seq (LP.q stakeL) (LQ.seq (LP.q stakeL) (Par.q znf))))))))), ⟨[4, 8, 12, 13, 15, 16], [.nilown 15 98 (.waits [])]⟩, [.cells 46 63, .cells 46 63, .rows 98]⟩
def zawa : St → Option LR := L1 131 6 0 za2p (.exit 0) zasc (fun s => zgm s.1 s.2.1 s.2.2.1 s.2.2.2.1 s.2.2.2.2.1 s.2.2.2.2.2.1 s.2.2.2.2.2.2.1 s.2.2.2.2.2.2.2.1 s.2.2.2.2.2.2.2.2.1 s.2.2.2.2.2.2.2.2.2.1 s.2.2.2.2.2.2.2.2.2.2)
theorem za2q : zq (zy59).env 0 (sub zc59 [0, 1, 0, 1, 1, 1, 1, 1, 1, 1]) zawa :=
  ziy (A := za2o) zh59 Facts.mix trivial (k := zci (sub zc59 [0, 1, 0, 1, 1, 1, 1, 1, 1, 1])) (by kernel_rfl) rfl (by rintro ⟨x0, x1, x2, x3, x4, x5, x6, x7, x8, x9, x10⟩; kernel_rfl)
def za59 : Ann := ⟨[([0, 1, 0, 1, 1, 1, 1, 1, 1, 1], zawa)], [], [], zv59, []⟩
def zpc (a0 : Stake) (a1 : Int) (a2 : Int) (a3 : Int) : Tr (Stake × Int × Int) :=
  (.bind (zdz a0 0 a1) fun v1 =>
  (.ite (v1 != 0)
    (.leaf (a0, 0, v1))
    (.guard ((0 : Int) ≤ a1 ∧ (a1 : Int) < 6)
    (.bind (zow (a0.Validators.Tokens.get a1) a3) fun v2 =>
    (.ite (v2.2 != 0)
      (.leaf (a0, 0, v2.2))
      (.bind (zu a0.Waits) fun v3 =>
      (.bind (zl5 a1 a2 a3 a1 v2.1 0 ((v3.length : Nat) : Int) 0 a0 (default : Stake) v3) fun v5 =>
      (.bind (zwd v5.2.2.2.1.Bank v5.2.1 v5.2.2.1) fun v6 =>
      (.ite (v6.2 != 0)
        (.leaf (v5.2.2.2.1, 0, v6.2))
        (.leaf ((⟨v6.1, { (v5.2.2.2.1.Validators : Validators) with Tokens := (v5.2.2.2.1.Validators.Tokens.set v5.1 (IntKind.i64.wrap ((v5.2.2.2.1.Validators.Tokens.get v5.1) - v5.2.1))), Lost := (v5.2.2.2.1.Validators.Lost.set v5.1 (IntKind.i64.wrap ((IntKind.i64.wrap ((v5.2.2.2.1.Validators.Lost.get v5.1) + v5.2.1)) + v5.2.2.1))) }, v5.2.2.2.1.Shares, v5.2.2.2.2.2, v5.2.2.2.1.Next⟩ : Stake), IntKind.i64.wrap (v5.2.1 + v5.2.2.1), 0)))))))))))
def zgx (a0 : Stake) (a1 : Int) (a2 : Int) (a3 : Int) : Option (Stake × Int × Int) := (zpc a0 a1 a2 a3).run
def zr59 : LQ (Stake × Int × Int × Int) := (LQ.seq (Par.q (Par.ofLP stakeL)) (LQ.seq (Par.q intP) (LQ.seq (Par.q intP) (Par.q intP))))
def zyv : LQ (Stake × Int × Int) := (LQ.seq (Par.q (Par.ofLP stakeL)) (LQ.seq (Par.q intP) (Par.q intP)))
def zt8 : SpecT := zv 0 zr59 4 [] (fun s => zpc s.1 s.2.1 s.2.2.1 s.2.2.2) default zyv 3 []
theorem zyw : zi Tryz.prog 79 (zt8).spec :=
  zf (A := za59) zh59 Facts.mix Tryz.func79 (c := zc59) (by kernel_rfl) (Lc := 0) ⟨za2q, trivial⟩ zr59 4 6 [] (fun s => zpc s.1 s.2.1 s.2.2.1 s.2.2.2) default zyv 3 [] [.pubB 8] (by decide) (by kernel_rfl) (by rfl) (by decide) (by decide) (by rfl)
    (by rintro ⟨a0, a1, a2, a3⟩; kernel_rfl)
noncomputable def zc60 : Code := Tryz.f123.body.getD .skip
def zv60 : List (List Nat) := [[1, 2, 4], [1, 2, 4, 6], [1, 2, 4, 6, 11], [4, 5], [1, 2, 4, 18], [4, 5], [2, 4], [4, 5]]
noncomputable def zy60 : EnvT := ⟨Tryz.prog, zr [(78, zge)]⟩
theorem zh60 : (zy60).Ok := ze ⟨zgw, trivial⟩
def za60 : Ann := ⟨[], [], [], zv60, []⟩
def zrf (a0 : Stake) (a1 : Int) : Tr (Stake × Int) :=
  (.bind (zdz a0 0 a1) fun v1 =>
  (.ite (v1 != 0)
    (.leaf (a0, v1))
    (.guard ((0 : Int) ≤ a1 ∧ (a1 : Int) < 6)
    (.ite (a0.Validators.Jailed.get a1)
      (.leaf (a0, 14))
      (.guard ((0 : Int) ≤ a1 ∧ (a1 : Int) < 6)
      (.leaf ({ (a0 : Stake) with Validators := { (a0.Validators : Validators) with Jailed := (a0.Validators.Jailed.set a1 true) } }, 0)))))))
def zkw (a0 : Stake) (a1 : Int) : Option (Stake × Int) := (zrf a0 a1).run
def zr60 : LQ (Stake × Int) := (LQ.seq (Par.q (Par.ofLP stakeL)) (Par.q intP))
def z1d : LQ (Stake × Int) := (LQ.seq (Par.q (Par.ofLP stakeL)) (Par.q intP))
def z3c : SpecT := zv 0 zr60 2 [] (fun s => zrf s.1 s.2) default z1d 2 []
theorem zaad : zi Tryz.prog 123 (z3c).spec :=
  zf (A := za60) zh60 Facts.mix Tryz.func123 (c := zc60) (by kernel_rfl) (Lc := 0) trivial zr60 2 4 [] (fun s => zrf s.1 s.2) default z1d 2 [] [.pubB 4] (by decide) (by kernel_rfl) (by rfl) (by decide) (by decide) (by rfl)
    (by rintro ⟨a0, a1⟩; kernel_rfl)
noncomputable def zc61 : Code := Tryz.f62.body.getD .skip
def zv61 : List (List Nat) := [[1, 2, 4], [1, 2, 4, 6], [1, 2, 4, 6, 12], [4, 5], [2, 4, 7], [2, 4], [2, 4, 7, 21], [4, 5], [2, 4, 7, 27], [4, 5], [4, 5]]
noncomputable def zy61 : EnvT := ⟨Tryz.prog, zr [(78, zge)]⟩
theorem zh61 : (zy61).Ok := ze ⟨zgw, trivial⟩
def za61 : Ann := ⟨[], [], [], zv61, []⟩
def zmv (a0 : Stake) (a1 : Int) : Tr (Stake × Int) :=
  (.bind (zdz a0 0 a1) fun v1 =>
  (.ite (v1 != 0)
    (.leaf (a0, v1))
    (.guard ((0 : Int) ≤ a1 ∧ (a1 : Int) < 6)
    (.ite (a0.Validators.Dead.get a1)
      (.leaf (a0, 15))
      (.ite (!(a0.Validators.Jailed.get a1))
        (.leaf (a0, 4))
        (.leaf ({ (a0 : Stake) with Validators := { (a0.Validators : Validators) with Jailed := (a0.Validators.Jailed.set a1 false) } }, 0)))))))
def zp5 (a0 : Stake) (a1 : Int) : Option (Stake × Int) := (zmv a0 a1).run
def zr61 : LQ (Stake × Int) := (LQ.seq (Par.q (Par.ofLP stakeL)) (Par.q intP))
def zwk : LQ (Stake × Int) := (LQ.seq (Par.q (Par.ofLP stakeL)) (Par.q intP))
def zyx : SpecT := zv 0 zr61 2 [] (fun s => zmv s.1 s.2) default zwk 2 []
theorem z5u : zi Tryz.prog 62 (zyx).spec :=
  zf (A := za61) zh61 Facts.mix Tryz.func62 (c := zc61) (by kernel_rfl) (Lc := 0) trivial zr61 2 4 [] (fun s => zmv s.1 s.2) default zwk 2 [] [.pubB 4] (by decide) (by kernel_rfl) (by rfl) (by decide) (by decide) (by rfl)
    (by rintro ⟨a0, a1⟩; kernel_rfl)
noncomputable def zc62 : Code := Tryz.f80.body.getD .skip
def zv62 : List (List Nat) := [[1, 2, 4], [1, 2, 4, 6], [1, 2, 4, 6, 11], [4, 5], [1, 2, 4, 18], [4, 5], [2, 4], [4, 5]]
noncomputable def zy62 : EnvT := ⟨Tryz.prog, zr [(78, zge)]⟩
theorem zh62 : (zy62).Ok := ze ⟨zgw, trivial⟩
def za62 : Ann := ⟨[], [], [], zv62, []⟩
def zrg (a0 : Stake) (a1 : Int) : Tr (Stake × Int) :=
  (.bind (zdz a0 0 a1) fun v1 =>
  (.ite (v1 != 0)
    (.leaf (a0, v1))
    (.guard ((0 : Int) ≤ a1 ∧ (a1 : Int) < 6)
    (.ite (a0.Validators.Dead.get a1)
      (.leaf (a0, 15))
      (.guard ((0 : Int) ≤ a1 ∧ (a1 : Int) < 6)
      (.guard ((0 : Int) ≤ a1 ∧ (a1 : Int) < 6)
      (.leaf ({ (a0 : Stake) with Validators := { (a0.Validators : Validators) with Jailed := (a0.Validators.Jailed.set a1 true), Dead := (a0.Validators.Dead.set a1 true) } }, 0))))))))
def zkx (a0 : Stake) (a1 : Int) : Option (Stake × Int) := (zrg a0 a1).run
def zr62 : LQ (Stake × Int) := (LQ.seq (Par.q (Par.ofLP stakeL)) (Par.q intP))
def z1e : LQ (Stake × Int) := (LQ.seq (Par.q (Par.ofLP stakeL)) (Par.q intP))
def zwl : SpecT := zv 0 zr62 2 [] (fun s => zrg s.1 s.2) default z1e 2 []
theorem z1f : zi Tryz.prog 80 (zwl).spec :=
  zf (A := za62) zh62 Facts.mix Tryz.func80 (c := zc62) (by kernel_rfl) (Lc := 0) trivial zr62 2 4 [] (fun s => zrg s.1 s.2) default z1e 2 [] [.pubB 4] (by decide) (by kernel_rfl) (by rfl) (by decide) (by decide) (by rfl)
    (by rintro ⟨a0, a1⟩; kernel_rfl)
end
end Go.Proofs.YtmakmlnfbdablaaGreat.Ab
