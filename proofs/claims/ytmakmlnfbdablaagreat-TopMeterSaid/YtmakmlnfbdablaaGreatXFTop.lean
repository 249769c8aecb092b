/-
  The functions, each by its tree.
-/
import Derived.Test.YtmakmlnfbdablaaGreatXAbFun
import Derived.Test.YtmakmlnfbdablaaGreatXAbStructs
import Derived.Test.YtmakmlnfbdablaaGreatXFBank
import Derived.Test.YtmakmlnfbdablaaGreatXFCodec
import Derived.Test.YtmakmlnfbdablaaGreatXFCons
import Derived.Test.YtmakmlnfbdablaaGreatXFLine
import Derived.Test.YtmakmlnfbdablaaGreatXFProv
import Derived.Test.YtmakmlnfbdablaaGreatXFStakeA
import Derived.Test.YtmakmlnfbdablaaGreatXFStakeB
import Derived.Test.YtmakmlnfbdablaaGreatXFWld
import Derived.Test.YtmakmlnfbdablaaGreatXFacts
namespace Go.Proofs.YtmakmlnfbdablaaGreat.Ab
open Go Go.RowKit
set_option maxRecDepth 100000
set_option linter.unusedVariables false
set_option linter.unusedSimpArgs false
noncomputable section
noncomputable def za4z : Code := Tryz.f15.body.getD .skip
def za5a : List (List Nat) := [[], [1], [1, 8], [0], [1, 2], [1, 2, 3], [1, 2, 3, 4], [1, 2, 3, 4, 5], [0]]
noncomputable def za5b : EnvT := ⟨Tryz.prog, zt [(43, zyz), (29, znl), (40, zpq), (23, zle)]⟩
theorem za5c : (za5b).Ok := zd ⟨z2p, zsi, zxa, ztl, trivial⟩
def za5d : Ann := ⟨[], [], [[1, 0, 1, 1]], za5a, []⟩
def ztm  : Tr (Bool) :=
  (.bind (zq1) fun v1 =>
  (.bind (zcm (⟨1, 0, 0, 0, 700, false, false⟩ : Deed) v1) fun v2 =>
  (.bind (zcm (⟨5, 0, 0, 0, 5, false, false⟩ : Deed) v2.2) fun v3 =>
  (.bind (zcm (⟨6, 0, 0, 0, 0, false, false⟩ : Deed) v3.2) fun v4 =>
  (.bind (zcm (⟨4, 0, 0, 0, 0, false, false⟩ : Deed) v4.2) fun v5 =>
  (.ite ((((v2.1.Code == 0) && (v3.1.N == 5)) && (v4.1.Code == 0)) && (v5.1.N == 1))
    (.bind (zig v5.2) fun v6 =>
    (.ite ((true : Bool) && (v6.1 == 5))
      (.bind (zb6 0 v6.2) fun v7 =>
      (.leaf ((true : Bool) && (((v7.1.Set.length : Nat) : Int) == 1))))
      (.ite ((false : Bool))
        .fail
        (.ite ((false : Bool))
          .fail
          (.ite ((false : Bool))
            .fail
            (.ite ((false : Bool))
              .fail
              (.leaf (false : Bool))))))))
    (.ite ((false : Bool))
      .fail
      (.ite ((false : Bool))
        .fail
        (.ite ((false : Bool))
          (.bind (zb6 0 v5.2) fun v6 =>
          (.leaf ((true : Bool) && (((v6.1.Set.length : Nat) : Int) == 1))))
          (.ite ((false : Bool))
            .fail
            (.ite ((false : Bool))
              .fail
              (.ite ((false : Bool))
                .fail
                (.ite ((false : Bool))
                  .fail
                  (.leaf (false : Bool)))))))))))))))
def zvu  : Option (Bool) := (ztm ).run
def zavl : LQ (Unit) := LQ.nil
def z2r : LQ (Bool) := (Par.q boolP)
def z4y : SpecT := zu 0 zavl 0 [] (fun s => ztm ) default z2r 1 []
theorem zaa1 : zh Tryz.prog 15 (z4y).spec :=
  ze (A := za5d) za5c Facts.mix Tryz.func15 (c := za4z) (by kernel_rfl) (Lc := 0) trivial zavl 0 7 [] (fun s => ztm ) default z2r 1 [] [] (by decide) (by kernel_rfl) (by rfl) (by decide) (by decide) (by rfl)
    (by rintro _; kernel_rfl)
noncomputable def zaq9 : Code := Tryz.f33.body.getD .skip
def zavm : List (List Nat) := [[0, 3, 4, 5, 6, 8, 9], [3, 4, 5, 6, 8, 9, 11], [3, 4, 5, 6, 11, 25], [], [10], [3, 4, 5, 6, 11, 33], [3, 4, 5, 6, 11], [3, 4, 5, 6, 11, 40, 41], [3, 4, 5, 6, 11, 40, 41, 42], [3, 4, 5, 6, 11, 12, 13, 40, 41], [3, 4, 5, 6, 11, 13, 14, 40, 41], [3, 4, 5, 6, 11, 14, 40, 41, 61], [3, 4, 5, 6, 11, 15, 40, 41], [3, 4, 5, 6, 11, 40, 41], [3, 4, 5, 6, 11, 40, 41], [4, 5, 6], [10]]
noncomputable def zavn : EnvT := ⟨Tryz.prog, zt [(19, zld), (34, zyx), (32, zhk)]⟩
theorem zavo : (zavn).Ok := zd ⟨ztk, z2m, zj6, trivial⟩
def zd1 (x0 : (A6 zg)) (x1 : Int) (x2 : Wld) (x3 : za) (x4 : Int) (x5 : Int) (x6 : Int) (x7 : za) : Tr (((A6 zg) × Int × Wld × za × Int × Int × Int × za) ⊕ (Wld × za × Int × Int × Int × za)) :=
  (.ite (decide (x1 < 6))
    (.guard ((0 : Int) ≤ x1 ∧ (x1 : Int) < 6)
    (.guard ((0 : Int) ≤ x1 ∧ (x1 : Int) < 6)
    (.ite (((A6.get ⟨x0.x0.Jailed, x0.x1.Jailed, x0.x2.Jailed, x0.x3.Jailed, x0.x4.Jailed, x0.x5.Jailed⟩ x1) && (!(A6.get ⟨x0.x0.Dead, x0.x1.Dead, x0.x2.Dead, x0.x3.Dead, x0.x4.Dead, x0.x5.Dead⟩ x1))) && (!(x3.Stake.Validators.Jailed.get x1)))
      (.guard ((100 : Int) ≠ 0)
      (.leaf (.inl (x0, IntKind.i64.wrap (x1 + 1), x2, x3, x4, IntKind.i64.wrap (x5 + (if (IntKind.i64.wrap (Int.tdiv (x3.Stake.Validators.Tokens.get x1) 100)) > 1 then (IntKind.i64.wrap (Int.tdiv (x3.Stake.Validators.Tokens.get x1) 100)) else 1)), if (if (IntKind.i64.wrap (Int.tdiv (x3.Stake.Validators.Tokens.get x1) 100)) > 1 then (IntKind.i64.wrap (Int.tdiv (x3.Stake.Validators.Tokens.get x1) 100)) else 1) > x6 then (if (IntKind.i64.wrap (Int.tdiv (x3.Stake.Validators.Tokens.get x1) 100)) > 1 then (IntKind.i64.wrap (Int.tdiv (x3.Stake.Validators.Tokens.get x1) 100)) else 1) else x6, x7))))
      (.leaf (.inl (x0, IntKind.i64.wrap (x1 + 1), x2, x3, x4, x5, x6, x7))))))
    (.leaf (.inr (x2, x3, x4, x5, x6, x7))))
def ze7 (x0 : (A6 zg)) (x1 : Int) (x2 : Wld) (x3 : za) (x4 : Int) (x5 : Int) (x6 : Int) (x7 : za) : Option (Wld × za × Int × Int × Int × za) := ze1 (fun s : (A6 zg) × Int × Wld × za × Int × Int × Int × za => (zd1 s.1 s.2.1 s.2.2.1 s.2.2.2.1 s.2.2.2.2.1 s.2.2.2.2.2.1 s.2.2.2.2.2.2.1 s.2.2.2.2.2.2.2).run) (x0, x1, x2, x3, x4, x5, x6, x7)
def zpt (x0 : (A6 zg)) (x1 : Int) (x2 : Wld) (x3 : za) (x4 : Int) (x5 : Int) (x6 : Int) (x7 : za) : Tr (((A6 zg) × Int × Wld × za × Int × Int × Int × za) ⊕ (Wld × za × Int × Int × Int × za)) :=
  (.ite (decide (x1 < 6))
    (.guard ((0 : Int) ≤ x1 ∧ (x1 : Int) < 6)
    (.guard ((0 : Int) ≤ x1 ∧ (x1 : Int) < 6)
    (.ite (((A6.get ⟨x0.x0.Jailed, x0.x1.Jailed, x0.x2.Jailed, x0.x3.Jailed, x0.x4.Jailed, x0.x5.Jailed⟩ x1) && (!(A6.get ⟨x0.x0.Dead, x0.x1.Dead, x0.x2.Dead, x0.x3.Dead, x0.x4.Dead, x0.x5.Dead⟩ x1))) && (!(x3.Stake.Validators.Jailed.get x1)))
      (.guard ((100 : Int) ≠ 0)
      (.leaf (.inl (x0, IntKind.i64.wrap (x1 + 1), x2, x3, x4, IntKind.i64.wrap (x5 + (if (IntKind.i64.wrap (Int.tdiv (x3.Stake.Validators.Tokens.get x1) 100)) > 1 then (IntKind.i64.wrap (Int.tdiv (x3.Stake.Validators.Tokens.get x1) 100)) else 1)), if (if (IntKind.i64.wrap (Int.tdiv (x3.Stake.Validators.Tokens.get x1) 100)) > 1 then (IntKind.i64.wrap (Int.tdiv (x3.Stake.Validators.Tokens.get x1) 100)) else 1) > x6 then (if (IntKind.i64.wrap (Int.tdiv (x3.Stake.Validators.Tokens.get x1) 100)) > 1 then (IntKind.i64.wrap (Int.tdiv (x3.Stake.Validators.Tokens.get x1) 100)) else 1) else x6, x7))))
      (.leaf (.inl (x0, IntKind.i64.wrap (x1 + 1), x2, x3, x4, x5, x6, x7))))))
    (.leaf (.inr (x2, x3, x4, x5, x6, x7))))
def znx (x0 : (A6 zg)) (x1 : Int) (x2 : Wld) (x3 : za) (x4 : Int) (x5 : Int) (x6 : Int) (x7 : za) : Option (Wld × za × Int × Int × Int × za) := ze1 (fun s : (A6 zg) × Int × Wld × za × Int × Int × Int × za => (zpt s.1 s.2.1 s.2.2.1 s.2.2.2.1 s.2.2.2.2.1 s.2.2.2.2.2.1 s.2.2.2.2.2.2.1 s.2.2.2.2.2.2.2).run) (x0, x1, x2, x3, x4, x5, x6, x7)
def zavp : Ann := ⟨[], [], [], zavm, []⟩
def zavq : EndD ((A6 zg) × Int × Wld × za × Int × Int × Int × za) := ⟨(LQ.skip (LQ.const (.ptr 1 0)) (LQ.skip (LQ.const (.ptr 2 0)) (LQ.skip (LQ.const (.ptr 3 0)) (LQ.skip (LQ.const (.ptr 4 0)) (LQ.skip (LQ.const (.ptr 5 0)) (LQ.seq (Par.q (Par.ofLP (a6L zjq))) (LQ.seq (Par.q intP) (LQ.seq (LP.q zw6) (LQ.seq (LP.q providerL) (LQ.seq (Par.q intP) (LQ.seq (Par.q intP) (LQ.seq (Par.q intP) (LP.q providerL))))))))))))), ⟨[3, 4, 5, 6, 11, 40, 41], []⟩, [.cells 109 159, .cells 61 97, .cells 3 1, .cells 3 1, .cells 3 1, .cells 61 97]⟩
def zal5 : EndD (Wld × za × Int × Int × Int × za) := ⟨(LQ.skip (LQ.const (.ptr 1 0)) (LQ.skip (LQ.const (.ptr 2 0)) (LQ.skip (LQ.const (.ptr 3 0)) (LQ.skip (LQ.const (.ptr 4 0)) (LQ.skip (LQ.const (.ptr 5 0)) (LQ.seq (LP.q zw6) (LQ.seq (LP.q providerL) (LQ.seq (Par.q intP) (LQ.seq (Par.q intP) (LQ.seq (Par.q intP) (LP.q providerL))))))))))), ⟨[3, 4, 5, 6, 11], []⟩, [.cells 109 159, .cells 61 97, .cells 3 1, .cells 3 1, .cells 3 1, .cells 61 97]⟩
def zaok : St → Option LR := L1 79 10 5 zavq (.exit 0) zal5 (fun s => zpt s.1 s.2.1 s.2.2.1 s.2.2.2.1 s.2.2.2.2.1 s.2.2.2.2.2.1 s.2.2.2.2.2.2.1 s.2.2.2.2.2.2.2)
theorem zavr : zv (zavn).env 5 (sub zaq9 [0, 1, 0, 1, 1, 1, 1]) zaok :=
  zii (A := zavp) zavo Facts.mix trivial (k := zdk (sub zaq9 [0, 1, 0, 1, 1, 1, 1])) (by kernel_rfl) rfl (by rintro ⟨x0, x1, x2, x3, x4, x5, x6, x7⟩; kernel_rfl)
def za5e : Ann := ⟨[([0, 1, 0, 1, 1, 1, 1], zaok)], [], [], zavm, []⟩
def zei (a0 : Deed) (a1 : Reply) (a2 : Wld) (a3 : za) (a4 : Int) (a5 : Int) (a6 : Int) : Tr (Bool × Wld × za × Int × Int × Int) :=
  (.bind (zdr a2) fun v1 =>
  (.ite ((a0.Kind != 6) || (a1.Code != 0))
    (.leaf (true, v1.2, v1.1, a4, a5, a6))
    (.ite (v1.1.Meter.Next != a3.Meter.Next)
      (.bind (zg8 a3.Set) fun v2 =>
      (.bind (zbi v2) fun v3 =>
      (.bind (ze7 (⟨(⟨v1.1.Stake.Validators.Tokens.x0, v1.1.Stake.Validators.Shares.x0, v1.1.Stake.Validators.Lost.x0, v1.1.Stake.Validators.Jailed.x0, v1.1.Stake.Validators.Dead.x0⟩ : zg), (⟨v1.1.Stake.Validators.Tokens.x1, v1.1.Stake.Validators.Shares.x1, v1.1.Stake.Validators.Lost.x1, v1.1.Stake.Validators.Jailed.x1, v1.1.Stake.Validators.Dead.x1⟩ : zg), (⟨v1.1.Stake.Validators.Tokens.x2, v1.1.Stake.Validators.Shares.x2, v1.1.Stake.Validators.Lost.x2, v1.1.Stake.Validators.Jailed.x2, v1.1.Stake.Validators.Dead.x2⟩ : zg), (⟨v1.1.Stake.Validators.Tokens.x3, v1.1.Stake.Validators.Shares.x3, v1.1.Stake.Validators.Lost.x3, v1.1.Stake.Validators.Jailed.x3, v1.1.Stake.Validators.Dead.x3⟩ : zg), (⟨v1.1.Stake.Validators.Tokens.x4, v1.1.Stake.Validators.Shares.x4, v1.1.Stake.Validators.Lost.x4, v1.1.Stake.Validators.Jailed.x4, v1.1.Stake.Validators.Dead.x4⟩ : zg), (⟨v1.1.Stake.Validators.Tokens.x5, v1.1.Stake.Validators.Shares.x5, v1.1.Stake.Validators.Lost.x5, v1.1.Stake.Validators.Jailed.x5, v1.1.Stake.Validators.Dead.x5⟩ : zg)⟩ : (A6 zg)) 0 v1.2 a3 v3 0 0 v1.1) fun v4 =>
      (.leaf (decide ((IntKind.i64.wrap (v4.2.2.2.1 - v4.2.2.2.2.1)) < v4.2.2.1), v4.1, v4.2.2.2.2.2, v4.2.2.1, v4.2.2.2.1, v4.2.2.2.2.1)))))
      (.bind (znx (⟨(⟨v1.1.Stake.Validators.Tokens.x0, v1.1.Stake.Validators.Shares.x0, v1.1.Stake.Validators.Lost.x0, v1.1.Stake.Validators.Jailed.x0, v1.1.Stake.Validators.Dead.x0⟩ : zg), (⟨v1.1.Stake.Validators.Tokens.x1, v1.1.Stake.Validators.Shares.x1, v1.1.Stake.Validators.Lost.x1, v1.1.Stake.Validators.Jailed.x1, v1.1.Stake.Validators.Dead.x1⟩ : zg), (⟨v1.1.Stake.Validators.Tokens.x2, v1.1.Stake.Validators.Shares.x2, v1.1.Stake.Validators.Lost.x2, v1.1.Stake.Validators.Jailed.x2, v1.1.Stake.Validators.Dead.x2⟩ : zg), (⟨v1.1.Stake.Validators.Tokens.x3, v1.1.Stake.Validators.Shares.x3, v1.1.Stake.Validators.Lost.x3, v1.1.Stake.Validators.Jailed.x3, v1.1.Stake.Validators.Dead.x3⟩ : zg), (⟨v1.1.Stake.Validators.Tokens.x4, v1.1.Stake.Validators.Shares.x4, v1.1.Stake.Validators.Lost.x4, v1.1.Stake.Validators.Jailed.x4, v1.1.Stake.Validators.Dead.x4⟩ : zg), (⟨v1.1.Stake.Validators.Tokens.x5, v1.1.Stake.Validators.Shares.x5, v1.1.Stake.Validators.Lost.x5, v1.1.Stake.Validators.Jailed.x5, v1.1.Stake.Validators.Dead.x5⟩ : zg)⟩ : (A6 zg)) 0 v1.2 a3 a4 a5 a6 v1.1) fun v5 =>
      (.leaf (decide ((IntKind.i64.wrap (v5.2.2.2.1 - v5.2.2.2.2.1)) < v5.2.2.1), v5.1, v5.2.2.2.2.2, v5.2.2.1, v5.2.2.2.1, v5.2.2.2.2.1))))))
def zw (a0 : Deed) (a1 : Reply) (a2 : Wld) (a3 : za) (a4 : Int) (a5 : Int) (a6 : Int) : Option (Bool × Wld × za × Int × Int × Int) := (zei a0 a1 a2 a3 a4 a5 a6).run
def zavs : LQ (Deed × Reply × Wld × za × Int × Int × Int) := (LQ.skip (LQ.const (.ptr 0 0)) (LQ.seq (Par.q (Par.ofLP deedL)) (LQ.seq (Par.q (Par.ofLP z10)) (LQ.skip (LQ.const (.ptr 1 0)) (LQ.skip (LQ.const (.ptr 2 0)) (LQ.skip (LQ.const (.ptr 3 0)) (LQ.skip (LQ.const (.ptr 4 0)) (LQ.seq (LP.q zw6) (LQ.seq (LP.q providerL) (LQ.seq (Par.q intP) (LQ.seq (Par.q intP) (Par.q intP))))))))))))
def zsj : LQ (Bool × Wld × za × Int × Int × Int) := (LQ.seq (Par.q boolP) (LQ.seq (LP.q zw6) (LQ.seq (LP.q providerL) (LQ.seq (Par.q intP) (LQ.seq (Par.q intP) (Par.q intP))))))
def zuh : SpecT := zu 5 zavs 7 [.cells 109 159, .cells 61 97, .cells 3 1, .cells 3 1, .cells 3 1] (fun s => zei s.1 s.2.1 s.2.2.1 s.2.2.2.1 s.2.2.2.2.1 s.2.2.2.2.2.1 s.2.2.2.2.2.2) default zsj 1 [.cells 109 159, .cells 61 97, .cells 3 1, .cells 3 1, .cells 3 1]
theorem z1n : zh Tryz.prog 33 (zuh).spec :=
  ze (A := za5e) zavo Facts.mix Tryz.func33 (c := zaq9) (by kernel_rfl) (Lc := 5) ⟨zavr, trivial⟩ zavs 7 10 [.cells 109 159, .cells 61 97, .cells 3 1, .cells 3 1, .cells 3 1] (fun s => zei s.1 s.2.1 s.2.2.1 s.2.2.2.1 s.2.2.2.2.1 s.2.2.2.2.2.1 s.2.2.2.2.2.2) default zsj 1 [.cells 109 159, .cells 61 97, .cells 3 1, .cells 3 1, .cells 3 1] [.pubN 0, .pubN 1] (by decide) (by kernel_rfl) (by rfl) (by decide) (by decide) (by rfl)
    (by rintro ⟨a0, a1, a2, a3, a4, a5, a6⟩; kernel_rfl)
noncomputable def zara : Code := Tryz.f17.body.getD .skip
def zavt : List (List Nat) := [[0, 1], [0, 1, 10], [4, 5], [0, 1, 6], [0, 1, 6, 7], [0, 1, 6, 7, 19], [0, 1, 6, 7], [0, 1, 6, 7, 8], [0, 1, 6, 7, 36], [4, 5], [4, 5]]
noncomputable def zavu : EnvT := ⟨Tryz.prog, zt [(15, z4y), (43, zyz), (29, znl), (33, zuh)]⟩
theorem zavv : (zavu).Ok := zd ⟨zaa1, z2p, zsi, z1n, trivial⟩
def zfq (x0 : (List Deed)) (x1 : Int) (x2 : za) (x3 : Int) (x4 : Int) (x5 : Int) (x6 : Wld) : Tr (((List Deed) × Int × za × Int × Int × Int × Wld) ⊕ ((Bool × za × Int × Int × Int × Wld) ⊕ (za × Int × Int × Int × Wld))) :=
  (.ite ((decide (x1 < ((x0.length : Nat) : Int))) && (decide (x1 < 120)))
    (.guard ((0 : Int) ≤ x1 ∧ x1 < ((Sl.len (.deeds x0) : Nat) : Int))
    (.bind (zcm (x0.getD x1.toNat default) x6) fun v3 =>
    (.guard ((0 : Int) ≤ x1 ∧ x1 < ((Sl.len (.deeds x0) : Nat) : Int))
    (.guard ((zw (x0.getD x1.toNat default) v3.1 v3.2 x2 x3 x4 x5).isSome = true)
    (.ite (!((zw (x0.getD x1.toNat default) v3.1 v3.2 x2 x3 x4 x5).getD default).1)
      (.leaf (.inr (.inl (false, ((zw (x0.getD x1.toNat default) v3.1 v3.2 x2 x3 x4 x5).getD default).2.2.1, ((zw (x0.getD x1.toNat default) v3.1 v3.2 x2 x3 x4 x5).getD default).2.2.2.1, ((zw (x0.getD x1.toNat default) v3.1 v3.2 x2 x3 x4 x5).getD default).2.2.2.2.1, ((zw (x0.getD x1.toNat default) v3.1 v3.2 x2 x3 x4 x5).getD default).2.2.2.2.2, ((zw (x0.getD x1.toNat default) v3.1 v3.2 x2 x3 x4 x5).getD default).2.1))))
      (.leaf (.inl (x0, IntKind.i64.wrap (x1 + 1), ((zw (x0.getD x1.toNat default) v3.1 v3.2 x2 x3 x4 x5).getD default).2.2.1, ((zw (x0.getD x1.toNat default) v3.1 v3.2 x2 x3 x4 x5).getD default).2.2.2.1, ((zw (x0.getD x1.toNat default) v3.1 v3.2 x2 x3 x4 x5).getD default).2.2.2.2.1, ((zw (x0.getD x1.toNat default) v3.1 v3.2 x2 x3 x4 x5).getD default).2.2.2.2.2, ((zw (x0.getD x1.toNat default) v3.1 v3.2 x2 x3 x4 x5).getD default).2.1))))))))
    (.leaf (.inr (.inr (x2, x3, x4, x5, x6)))))
def zk1 (x0 : (List Deed)) (x1 : Int) (x2 : za) (x3 : Int) (x4 : Int) (x5 : Int) (x6 : Wld) : Option ((Bool × za × Int × Int × Int × Wld) ⊕ (za × Int × Int × Int × Wld)) := ze1 (fun s : (List Deed) × Int × za × Int × Int × Int × Wld => (zfq s.1 s.2.1 s.2.2.1 s.2.2.2.1 s.2.2.2.2.1 s.2.2.2.2.2.1 s.2.2.2.2.2.2).run) (x0, x1, x2, x3, x4, x5, x6)
def zavw : Ann := ⟨[], [], [], zavt, []⟩
def zavx : EndD ((List Deed) × Int × za × Int × Int × Int × Wld) := ⟨(LQ.seq (Par.q deedsP) (LQ.skip (LQ.const (.fn 33 [.ptr 0 0, .ptr 1 0, .ptr 2 0, .ptr 3 0])) (LQ.skip (LQ.const (.ptr 4 0)) (LQ.seq (Par.q intP) (LQ.seq (LP.q providerL) (LQ.seq (Par.q intP) (LQ.seq (Par.q intP) (LQ.seq (Par.q intP) (LP.q zw6))))))))), ⟨[0, 1, 6, 7], [.pub 0, .nilsl 0 (.deeds [])]⟩, [.cells 61 97, .cells 3 1, .cells 3 1, .cells 3 1, .cells 109 159]⟩
def zal6 : EndD (Bool × za × Int × Int × Int × Wld) := ⟨(LQ.skip (LQ.const (.ptr 4 0)) (LQ.seq (Par.q boolP) (LQ.seq (LP.q providerL) (LQ.seq (Par.q intP) (LQ.seq (Par.q intP) (LQ.seq (Par.q intP) (LP.q zw6))))))), ⟨[4, 5], [.pubB 4]⟩, [.cells 61 97, .cells 3 1, .cells 3 1, .cells 3 1, .cells 109 159]⟩
def zal7 : EndD (za × Int × Int × Int × Wld) := ⟨(LQ.skip (LQ.const (.ptr 4 0)) (LQ.seq (LP.q providerL) (LQ.seq (Par.q intP) (LQ.seq (Par.q intP) (LQ.seq (Par.q intP) (LP.q zw6)))))), ⟨[6], []⟩, [.cells 61 97, .cells 3 1, .cells 3 1, .cells 3 1, .cells 109 159]⟩
def zaol : St → Option LR := L2 39 8 4 zavx .ret zal6 (.exit 0) zal7 (fun s => zfq s.1 s.2.1 s.2.2.1 s.2.2.2.1 s.2.2.2.2.1 s.2.2.2.2.2.1 s.2.2.2.2.2.2)
theorem zavy : zv (zavu).env 4 (sub zara [0, 1, 0, 1, 1, 1]) zaol :=
  zs3 (A := zavw) zavv Facts.mix trivial (k := zdk (sub zara [0, 1, 0, 1, 1, 1])) (by kernel_rfl) rfl rfl (by rintro ⟨x0, x1, x2, x3, x4, x5, x6⟩; kernel_rfl)
def za5f : Ann := ⟨[([0, 1, 0, 1, 1, 1], zaol)], [], [], zavt, []⟩
def zmm (a0 : (List Deed)) (a1 : za) (a2 : Int) (a3 : Int) (a4 : Int) : Tr (Bool × za × Int × Int × Int × Wld) :=
  (.bind (zvu) fun v1 =>
  (.ite (!v1)
    .fail
    (.bind (zq1) fun v2 =>
    (.two (zk1 a0 0 a1 a2 a3 a4 v2) (fun v4 =>
      (.leaf (v4.1, v4.2.1, v4.2.2.1, v4.2.2.2.1, v4.2.2.2.2.1, v4.2.2.2.2.2))) (fun v5 =>
      (.leaf (true, v5.1, v5.2.1, v5.2.2.1, v5.2.2.2.1, v5.2.2.2.2)))))))
def zvv (a0 : (List Deed)) (a1 : za) (a2 : Int) (a3 : Int) (a4 : Int) : Option (Bool × za × Int × Int × Int × Wld) := (zmm a0 a1 a2 a3 a4).run
def zavz : LQ ((List Deed) × za × Int × Int × Int) := (LQ.seq (Par.q deedsP) (LQ.skip (LQ.const (.fn 33 [.ptr 0 0, .ptr 1 0, .ptr 2 0, .ptr 3 0])) (LQ.seq (LP.q providerL) (LQ.seq (Par.q intP) (LQ.seq (Par.q intP) (Par.q intP))))))
def zvw : LQ (Bool × za × Int × Int × Int × Wld) := (LQ.skip (LQ.const (.ptr 4 0)) (LQ.seq (Par.q boolP) (LQ.seq (LP.q providerL) (LQ.seq (Par.q intP) (LQ.seq (Par.q intP) (LQ.seq (Par.q intP) (LP.q zw6)))))))
def zx6 : SpecT := zu 4 zavz 2 [.cells 61 97, .cells 3 1, .cells 3 1, .cells 3 1] (fun s => zmm s.1 s.2.1 s.2.2.1 s.2.2.2.1 s.2.2.2.2) default zvw 2 [.cells 61 97, .cells 3 1, .cells 3 1, .cells 3 1, .cells 109 159]
theorem z4z : zh Tryz.prog 17 (zx6).spec :=
  ze (A := za5f) zavv Facts.mix Tryz.func17 (c := zara) (by kernel_rfl) (Lc := 4) ⟨zavy, trivial⟩ zavz 2 8 [.cells 61 97, .cells 3 1, .cells 3 1, .cells 3 1] (fun s => zmm s.1 s.2.1 s.2.2.1 s.2.2.2.1 s.2.2.2.2) default zvw 2 [.cells 61 97, .cells 3 1, .cells 3 1, .cells 3 1, .cells 109 159] [.pubN 0, .pubB 4] (by decide) (by kernel_rfl) (by rfl) (by decide) (by decide) (by rfl)
    (by rintro ⟨a0, a1, a2, a3, a4⟩; kernel_rfl)
noncomputable def za5g : Code := Tryz.f9.body.getD .skip
def za5h : List (List Nat) := [[0], [0, 3], [0, 3, 4, 5, 6], [8], [2]]
noncomputable def za5i : EnvT := ⟨Tryz.prog, zt [(31, zri), (32, zhk), (17, zx6)]⟩
theorem za5j : (za5i).Ok := zd ⟨zvi, zj6, z4z, trivial⟩
def za5k : Ann := ⟨[], [], [], za5h, []⟩
def zmn (a0 : (List Deed)) : Tr (Bool) :=
  (.bind (zko) fun v1 =>
  (.bind (zbi 0) fun v2 =>
  (.bind (zvv a0 v1 v2 0 0) fun v3 =>
  (.leaf v3.1))))
def zk2 (a0 : (List Deed)) : Option (Bool) := (zmn a0).run
def zav0 : LQ ((List Deed)) := (Par.q deedsP)
def qr_top_TopMeter : LQ (Bool) := (Par.q boolP)
def z6p : SpecT := zu 0 zav0 1 [] (fun s => zmn s) default qr_top_TopMeter 1 []
theorem z40 : zh Tryz.prog 9 (z6p).spec :=
  ze (A := za5k) za5j Facts.mix Tryz.func9 (c := za5g) (by kernel_rfl) (Lc := 0) trivial zav0 1 7 [] (fun s => zmn s) default qr_top_TopMeter 1 [] [] (by decide) (by kernel_rfl) (by rfl) (by decide) (by decide) (by rfl)
    (by rintro a0; kernel_rfl)
end
end Go.Proofs.YtmakmlnfbdablaaGreat.Ab
