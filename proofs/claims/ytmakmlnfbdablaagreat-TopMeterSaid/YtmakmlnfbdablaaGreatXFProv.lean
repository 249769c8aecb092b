/-
  The functions, each by its tree.
-/
import Derived.Test.YtmakmlnfbdablaaGreatXAbClear
import Derived.Test.YtmakmlnfbdablaaGreatXAbFun
import Derived.Test.YtmakmlnfbdablaaGreatXAbInsert
import Derived.Test.YtmakmlnfbdablaaGreatXAbStructs
import Derived.Test.YtmakmlnfbdablaaGreatXFBank
import Derived.Test.YtmakmlnfbdablaaGreatXFCodec
import Derived.Test.YtmakmlnfbdablaaGreatXFLine
import Derived.Test.YtmakmlnfbdablaaGreatXFStakeA
import Derived.Test.YtmakmlnfbdablaaGreatXFStakeB
import Derived.Test.YtmakmlnfbdablaaGreatXFacts
namespace Go.Proofs.YtmakmlnfbdablaaGreat.Ab
open Go Go.RowKit
set_option maxRecDepth 100000
set_option linter.unusedVariables false
set_option linter.unusedSimpArgs false
noncomputable section
noncomputable def zc68 : Code := Tryz.f31.body.getD .skip
def zv68 : List (List Nat) := [[0], [0]]
noncomputable def zy68 : EnvT := ⟨Tryz.prog, zt [(66, z4q), (67, zyv)]⟩
theorem zh68 : (zy68).Ok := zd ⟨zaay, z2c, trivial⟩
def za68 : Ann := ⟨[], [], [], zv68, []⟩
def zmf  : Tr (za) :=
  (.bind (zu8) fun v1 =>
  (.bind (zqg 0 0) fun v2 =>
  (.leaf (⟨0, 0, v1, [], (default : Links), v2, []⟩ : za))))
def zko  : Option (za) := (zmf ).run
def zr68 : LQ (Unit) := LQ.nil
def zvh : LQ (za) := (Par.q (Par.ofLP providerL))
def zri : SpecT := zu 0 zr68 0 [] (fun s => zmf ) default zvh 1 []
theorem zvi : zh Tryz.prog 31 (zri).spec :=
  ze (A := za68) zh68 Facts.mix Tryz.func31 (c := zc68) (by kernel_rfl) (Lc := 0) trivial zr68 0 3 [] (fun s => zmf ) default zvh 1 [] [.pubB 0] (by decide) (by kernel_rfl) (by rfl) (by decide) (by decide) (by rfl)
    (by rintro _; kernel_rfl)
noncomputable def zc69 : Code := Tryz.f56.body.getD .skip
def zv69 : List (List Nat) := [[0], [0, 5, 6, 7], [0, 5, 6, 7, 8], [0, 3, 4, 5, 6, 7], [0, 5, 6, 7, 44], [2], [0, 5, 6, 7], [2]]
noncomputable def zy69 : EnvT := ⟨Tryz.prog, zt []⟩
theorem zh69 : (zy69).Ok := zd trivial
def zht (x0 : (List Power)) (x1 : (List Power)) (x2 : Int) (x3 : Int) : Tr (((List Power) × (List Power) × Int × Int) ⊕ ((Bool) ⊕ (Unit))) :=
  (.ite (decide (x3 < x2))
    (.guard ((0 : Int) ≤ x3 ∧ x3 < ((Sl.len (.powers x1) : Nat) : Int))
    (.guard (((decide (x3 > 0)) = true → (((decide (((x1.getD x3.toNat default).V) < 0)) || (decide (((x1.getD x3.toNat default).V) ≥ 6))) = false → ((0 : Int) ≤ (IntKind.i64.wrap (x3 - 1)) ∧ (IntKind.i64.wrap (x3 - 1)) < ((Sl.len (.powers x0) : Nat) : Int)) ∧ True)))
    (.ite (((((decide (((x1.getD x3.toNat default).V) < 0)) || (decide (((x1.getD x3.toNat default).V) ≥ 6))) || ((decide (x3 > 0)) && (decide (((x0.getD ((IntKind.i64.wrap (x3 - 1)).toNat) default).V) ≥ ((x1.getD x3.toNat default).V))))) || (decide (((x1.getD x3.toNat default).N) < 1))) || (decide (((x1.getD x3.toNat default).N) > 1125899906842624)))
      (.leaf (.inr (.inl false)))
      (.leaf (.inl (x0, x1, x2, IntKind.i64.wrap (x3 + 1)))))))
    (.leaf (.inr (.inr ()))))
def zqx (x0 : (List Power)) (x1 : (List Power)) (x2 : Int) (x3 : Int) : Option ((Bool) ⊕ (Unit)) := ze1 (fun s : (List Power) × (List Power) × Int × Int => (zht s.1 s.2.1 s.2.2.1 s.2.2.2).run) (x0, x1, x2, x3)
def za04 : Ann := ⟨[], [], [], zv69, []⟩
def za05 : EndD ((List Power) × (List Power) × Int × Int) := ⟨(LQ.seq (Par.q zp) (LQ.seq (Par.q zp) (LQ.seq (Par.q intP) (Par.q intP)))), ⟨[0, 5, 6, 7], [.pub 0, .nilsl 0 (.powers []), .pub 5, .nilsl 5 (.powers [])]⟩, []⟩
def zaqn : EndD (Bool) := ⟨(Par.q boolP), ⟨[2], []⟩, []⟩
def zaqo : EndD (Unit) := ⟨LQ.nil, ⟨[], []⟩, []⟩
def zat9 : St → Option LR := L2 46 3 0 za05 .ret zaqn (.exit 0) zaqo (fun s => zht s.1 s.2.1 s.2.2.1 s.2.2.2)
theorem za06 : zv (zy69).env 0 (sub zc69 [0, 1, 0, 1]) zat9 :=
  zs3 (A := za04) zh69 Facts.mix trivial (k := zdk (sub zc69 [0, 1, 0, 1])) (by kernel_rfl) rfl rfl (by rintro ⟨x0, x1, x2, x3⟩; kernel_rfl)
def za69 : Ann := ⟨[([0, 1, 0, 1], zat9)], [], [], zv69, []⟩
def zmg (a0 : (List Power)) : Tr (Bool) :=
  (.two (zqx a0 a0 ((a0.length : Nat) : Int) 0) (fun v1 =>
    (.leaf v1)) (fun v2 =>
    (.leaf true)))
def zdz (a0 : (List Power)) : Option (Bool) := (zmg a0).run
def zr69 : LQ ((List Power)) := (Par.q zp)
def zvj : LQ (Bool) := (Par.q boolP)
def zx3 : SpecT := zu 0 zr69 1 [] (fun s => zmg s) default zvj 1 []
theorem z4v : zh Tryz.prog 56 (zx3).spec :=
  ze (A := za69) zh69 Facts.mix Tryz.func56 (c := zc69) (by kernel_rfl) (Lc := 0) ⟨za06, trivial⟩ zr69 1 3 [] (fun s => zmg s) default zvj 1 [] [] (by decide) (by kernel_rfl) (by rfl) (by decide) (by decide) (by rfl)
    (by rintro a0; kernel_rfl)
noncomputable def zc70 : Code := Tryz.f58.body.getD .skip
def zv70 : List (List Nat) := [[1, 2], [3]]
noncomputable def zy70 : EnvT := ⟨Tryz.prog, zt [(55, zmx)]⟩
theorem zh70 : (zy70).Ok := zd ⟨zoo, trivial⟩
def za70 : Ann := ⟨[], [], [], zv70, []⟩
def zhu (a0 : Asked) (a1 : za) : Tr (Bool × za) :=
  (.guard ((((decide (a0.C < 0)) || (decide (a0.C ≥ 2))) = false → ((0 : Int) ≤ a0.C ∧ (a0.C : Int) < 2) ∧ True))
  (.guard (((((decide (a0.C < 0)) || (decide (a0.C ≥ 2))) || (!(a1.Links.On.get a0.C))) = false → ((zf4 a0.P).isSome = true) ∧ True))
  (.leaf (((((decide (a0.C < 0)) || (decide (a0.C ≥ 2))) || (!(a1.Links.On.get a0.C))) || (((zf4 a0.P).getD default) != 0)) || (a0.P.Kind == 1), a1))))
def zkp (a0 : Asked) (a1 : za) : Option (Bool × za) := (zhu a0 a1).run
def zr70 : LQ (Asked × za) := (LQ.seq (Par.q (Par.ofLP zah2)) (LQ.skip (LQ.const (.ptr 0 0)) (LP.q providerL)))
def zqy : LQ (Bool × za) := (LQ.seq (Par.q boolP) (LP.q providerL))
def zse : SpecT := zu 1 zr70 2 [.cells 61 97] (fun s => zhu s.1 s.2) default zqy 1 [.cells 61 97]
theorem z0v : zh Tryz.prog 58 (zse).spec :=
  ze (A := za70) zh70 Facts.mix Tryz.func58 (c := zc70) (by kernel_rfl) (Lc := 1) trivial zr70 2 4 [.cells 61 97] (fun s => zhu s.1 s.2) default zqy 1 [.cells 61 97] [.pubN 0] (by decide) (by kernel_rfl) (by rfl) (by decide) (by decide) (by rfl)
    (by rintro ⟨a0, a1⟩; kernel_rfl)
noncomputable def zc71 : Code := Tryz.f75.body.getD .skip
def zv71 : List (List Nat) := [[0, 1], [0, 1, 7, 8], [0, 1, 7, 8, 9], [0, 1, 5, 7, 8], [0, 1, 5, 7, 8, 16], [4], [0, 1, 7, 8], [4]]
noncomputable def zy71 : EnvT := ⟨Tryz.prog, zt [(58, zse)]⟩
theorem zh71 : (zy71).Ok := zd ⟨z0v, trivial⟩
def zac (x0 : (List Asked)) (x1 : Int) (x2 : Int) (x3 : za) : Tr (((List Asked) × Int × Int × za) ⊕ ((Int × za) ⊕ (za))) :=
  (.ite (decide (x2 < x1))
    (.guard ((0 : Int) ≤ x2 ∧ x2 < ((Sl.len (.asked x0) : Nat) : Int))
    (.bind (zkp (x0.getD x2.toNat default) x3) fun v1 =>
    (.ite (v1.1)
      (.leaf (.inr (.inl (x2, v1.2))))
      (.leaf (.inl (x0, x1, IntKind.i64.wrap (x2 + 1), v1.2))))))
    (.leaf (.inr (.inr x3))))
def zd7 (x0 : (List Asked)) (x1 : Int) (x2 : Int) (x3 : za) : Option ((Int × za) ⊕ (za)) := ze1 (fun s : (List Asked) × Int × Int × za => (zac s.1 s.2.1 s.2.2.1 s.2.2.2).run) (x0, x1, x2, x3)
def za08 : Ann := ⟨[], [], [], zv71, []⟩
def za09 : EndD ((List Asked) × Int × Int × za) := ⟨(LQ.seq (Par.q ze8) (LQ.skip (LQ.const (.fn 58 [.ptr 0 0])) (LQ.seq (Par.q intP) (LQ.seq (Par.q intP) (LP.q providerL))))), ⟨[0, 1, 7, 8], [.pub 0, .nilsl 0 (.asked [])]⟩, [.cells 61 97]⟩
def zaqp : EndD (Int × za) := ⟨(LQ.seq (Par.q intP) (LP.q providerL)), ⟨[4], []⟩, [.cells 61 97]⟩
def zaqq : EndD (za) := ⟨(LP.q providerL), ⟨[], []⟩, [.cells 61 97]⟩
def zaua : St → Option LR := L2 19 3 1 za09 .ret zaqp (.exit 0) zaqq (fun s => zac s.1 s.2.1 s.2.2.1 s.2.2.2)
theorem za1a : zv (zy71).env 1 (sub zc71 [0, 1, 0, 1]) zaua :=
  zs3 (A := za08) zh71 Facts.mix trivial (k := zdk (sub zc71 [0, 1, 0, 1])) (by kernel_rfl) rfl rfl (by rintro ⟨x0, x1, x2, x3⟩; kernel_rfl)
def za71 : Ann := ⟨[([0, 1, 0, 1], zaua)], [], [], zv71, []⟩
def zam (a0 : (List Asked)) (a1 : za) : Tr (Int × za) :=
  (.two (zd7 a0 ((a0.length : Nat) : Int) 0 a1) (fun v2 =>
    (.leaf (v2.1, v2.2))) (fun v3 =>
    (.leaf (-1, v3))))
def zcl (a0 : (List Asked)) (a1 : za) : Option (Int × za) := (zam a0 a1).run
def zr71 : LQ ((List Asked) × za) := (LQ.seq (Par.q ze8) (LQ.skip (LQ.const (.fn 58 [.ptr 0 0])) (LP.q providerL)))
def zfk : LQ (Int × za) := (LQ.seq (Par.q intP) (LP.q providerL))
def zfv : SpecT := zu 1 zr71 2 [.cells 61 97] (fun s => zam s.1 s.2) default zfk 1 [.cells 61 97]
theorem zlr : zh Tryz.prog 75 (zfv).spec :=
  ze (A := za71) zh71 Facts.mix Tryz.func75 (c := zc71) (by kernel_rfl) (Lc := 1) ⟨za1a, trivial⟩ zr71 2 3 [.cells 61 97] (fun s => zam s.1 s.2) default zfk 1 [.cells 61 97] [.pubN 0] (by decide) (by kernel_rfl) (by rfl) (by decide) (by decide) (by rfl)
    (by rintro ⟨a0, a1⟩; kernel_rfl)
noncomputable def zc72 : Code := Tryz.f57.body.getD .skip
def zv72 : List (List Nat) := [[0, 1], [4]]
noncomputable def zy72 : EnvT := ⟨Tryz.prog, zt [(75, zfv)]⟩
theorem zh72 : (zy72).Ok := zd ⟨zlr, trivial⟩
def za72 : Ann := ⟨[], [], [], zv72, []⟩
def zbe (a0 : (List Asked)) (a1 : za) : Tr (Bool × za) :=
  (.bind (zcl a0 a1) fun v1 =>
  (.leaf (decide (v1.1 ≥ 0), v1.2)))
def zcg (a0 : (List Asked)) (a1 : za) : Option (Bool × za) := (zbe a0 a1).run
def zr72 : LQ ((List Asked) × za) := (LQ.seq (Par.q ze8) (LQ.skip (LQ.const (.fn 58 [.ptr 0 0])) (LP.q providerL)))
def ze3 : LQ (Bool × za) := (LQ.seq (Par.q boolP) (LP.q providerL))
def zfl : SpecT := zu 1 zr72 2 [.cells 61 97] (fun s => zbe s.1 s.2) default ze3 1 [.cells 61 97]
theorem zk8 : zh Tryz.prog 57 (zfl).spec :=
  ze (A := za72) zh72 Facts.mix Tryz.func57 (c := zc72) (by kernel_rfl) (Lc := 1) trivial zr72 2 3 [.cells 61 97] (fun s => zbe s.1 s.2) default ze3 1 [.cells 61 97] [.pubN 0] (by decide) (by kernel_rfl) (by rfl) (by decide) (by decide) (by rfl)
    (by rintro ⟨a0, a1⟩; kernel_rfl)
noncomputable def zc73 : Code := Tryz.f25.body.getD .skip
def zv73 : List (List Nat) := [[1], [1, 36], [2], [1, 38, 39], [1, 38, 39, 40], [1, 4, 38, 39], [1, 4, 38, 39, 71], [2], [1, 4, 38, 39, 73, 74, 75], [1, 4, 38, 39, 73, 74, 75, 76], [1, 4, 5, 6, 38, 39, 73, 74, 75], [1, 4, 38, 39, 73, 74, 75, 99], [2], [1, 4, 38, 39, 73, 74, 75], [1, 38, 39], [2]]
noncomputable def zy73 : EnvT := ⟨Tryz.prog, zt [(21, zqm), (56, zx3), (52, zlm), (57, zfl)]⟩
theorem zh73 : (zy73).Ok := zd ⟨zte, z4v, zmw, zk8, trivial⟩
def zgx (x0 : Links) (x1 : Int) (x2 : (List Int)) (x3 : Int) (x4 : Int) (x5 : za) (x6 : Link) : Tr ((Links × Int × (List Int) × Int × Int × za × Link) ⊕ ((Bool) ⊕ (Links × Int × za))) :=
  (.ite (decide (x4 < x3))
    (.guard ((0 : Int) ≤ x4 ∧ x4 < ((Sl.len (.ints x2) : Nat) : Int))
    (.guard (((decide (x4 > 0)) = true → (((decide ((x2.getD x4.toNat 0) < 0)) || (decide ((x2.getD x4.toNat 0) ≥ 6))) = false → ((0 : Int) ≤ (IntKind.i64.wrap (x4 - 1)) ∧ (IntKind.i64.wrap (x4 - 1)) < ((Sl.len (.ints x6.Done) : Nat) : Int)) ∧ True)))
    (.ite (((decide ((x2.getD x4.toNat 0) < 0)) || (decide ((x2.getD x4.toNat 0) ≥ 6))) || ((decide (x4 > 0)) && (decide ((x6.Done.getD ((IntKind.i64.wrap (x4 - 1)).toNat) 0) ≥ (x2.getD x4.toNat 0)))))
      (.leaf (.inr (.inl false)))
      (.leaf (.inl (x0, x1, x2, x3, IntKind.i64.wrap (x4 + 1), x5, x6))))))
    (.leaf (.inr (.inr (x0, x1, x5)))))
def zpl (x0 : Links) (x1 : Int) (x2 : (List Int)) (x3 : Int) (x4 : Int) (x5 : za) (x6 : Link) : Option ((Bool) ⊕ (Links × Int × za)) := ze1 (fun s : Links × Int × (List Int) × Int × Int × za × Link => (zgx s.1 s.2.1 s.2.2.1 s.2.2.2.1 s.2.2.2.2.1 s.2.2.2.2.2.1 s.2.2.2.2.2.2).run) (x0, x1, x2, x3, x4, x5, x6)
def za1e : Ann := ⟨[], [], [], zv73, []⟩
def za1f : EndD (Links × Int × (List Int) × Int × Int × za × Link) := ⟨(LQ.skip (LQ.const (.ptr 0 0)) (LQ.skip (LQ.const (.ptr 1 0)) (LQ.seq (Par.q (Par.ofLP linksL)) (LQ.seq (Par.q intP) (LQ.seq (Par.q zg1) (LQ.seq (Par.q intP) (LQ.seq (Par.q intP) (LQ.seq (LP.q providerL) (LP.q zash))))))))), ⟨[1, 4, 38, 39, 73, 74, 75], [.pub 73, .nilsl 73 (.ints [])]⟩, [.cells 61 97, .cells 55 14]⟩
def zaqr : EndD (Bool) := ⟨(Par.q boolP), ⟨[2], []⟩, []⟩
def zaqs : EndD (Links × Int × za) := ⟨(LQ.skip (LQ.const (.ptr 0 0)) (LQ.seq (Par.q (Par.ofLP linksL)) (LQ.seq (Par.q intP) (LP.q providerL)))), ⟨[1, 38, 39], []⟩, [.cells 61 97]⟩
def zauc : St → Option LR := L2 107 4 0 za1f .ret zaqr (.exit 2) zaqs (fun s => zgx s.1 s.2.1 s.2.2.1 s.2.2.2.1 s.2.2.2.2.1 s.2.2.2.2.2.1 s.2.2.2.2.2.2)
theorem za1g : zv (zy73).env 0 (sub zc73 [0, 1, 1, 1, 0, 0, 1, 1, 0, 0, 1, 0, 1, 1]) zauc :=
  zs3 (A := za1e) zh73 Facts.mix trivial (k := zdk (sub zc73 [0, 1, 1, 1, 0, 0, 1, 1, 0, 0, 1, 0, 1, 1])) (by kernel_rfl) rfl rfl (by rintro ⟨x0, x1, x2, x3, x4, x5, x6⟩; kernel_rfl)
def zdg (x0 : Links) (x1 : Int) (x2 : za) : Tr ((Links × Int × za) ⊕ ((Bool) ⊕ (za))) :=
  (.ite (decide (x1 < 2))
    (.guard ((0 : Int) ≤ x1 ∧ (x1 : Int) < 2)
    (.guard ((((((x0.On.get x1) && (x0.Gone.get x1)) || (decide ((x0.Base.get x1) < 0))) || (decide ((x0.Base.get x1) > x2.Height))) = false → ((zdz (x0.Told.get x1)).isSome = true) ∧ True))
    (.guard (((((((x0.On.get x1) && (x0.Gone.get x1)) || (decide ((x0.Base.get x1) < 0))) || (decide ((x0.Base.get x1) > x2.Height))) || (!((zdz (x0.Told.get x1)).getD default))) = false → ((zek (⟨x0.Said.get x1, x0.Due.get x1, x0.Got.get x1, x0.Closed.get x1⟩ : ze0)).isSome = true) ∧ True))
    (.ite ((((((x0.On.get x1) && (x0.Gone.get x1)) || (decide ((x0.Base.get x1) < 0))) || (decide ((x0.Base.get x1) > x2.Height))) || (!((zdz (x0.Told.get x1)).getD default))) || (!((zek (⟨x0.Said.get x1, x0.Due.get x1, x0.Got.get x1, x0.Closed.get x1⟩ : ze0)).getD default)))
      (.leaf (.inr (.inl false)))
      (.two (zpl x0 x1 (x0.Done.get x1) (((x0.Done.get x1).length : Nat) : Int) 0 x2 (⟨x0.On.get x1, x0.Gone.get x1, x0.Base.get x1, x0.Told.get x1, x0.Fresh.get x1, x0.Done.get x1, (⟨x0.Said.get x1, x0.Due.get x1, x0.Got.get x1, x0.Closed.get x1⟩ : ze0), (⟨x0.SHeight.get x1, x0.STime.get x1, x0.SSaid.get x1, x0.SGot.get x1⟩ : z75)⟩ : Link)) (fun v2 =>
        (.leaf (.inr (.inl v2)))) (fun v3 =>
        (.leaf (.inl (v3.1, IntKind.i64.wrap (v3.2.1 + 1), v3.2.2)))))))))
    (.leaf (.inr (.inr x2))))
def zjl (x0 : Links) (x1 : Int) (x2 : za) : Option ((Bool) ⊕ (za)) := ze1 (fun s : Links × Int × za => (zdg s.1 s.2.1 s.2.2).run) (x0, x1, x2)
def za1h : Ann := ⟨[([0, 1, 1, 1, 0, 0, 1, 1, 0, 0, 1, 0, 1, 1], zauc)], [], [], zv73, []⟩
def za1i : EndD (Links × Int × za) := ⟨(LQ.skip (LQ.const (.ptr 0 0)) (LQ.seq (Par.q (Par.ofLP linksL)) (LQ.seq (Par.q intP) (LP.q providerL)))), ⟨[1, 38, 39], []⟩, [.cells 61 97]⟩
def zaqt : EndD (Bool) := ⟨(Par.q boolP), ⟨[2], []⟩, []⟩
def zaqu : EndD (za) := ⟨(LQ.skip (LQ.const (.ptr 0 0)) (LP.q providerL)), ⟨[1], []⟩, [.cells 61 97]⟩
def zaud : St → Option LR := L2 107 4 0 za1i .ret zaqt (.exit 0) zaqu (fun s => zdg s.1 s.2.1 s.2.2)
theorem za1j : zv (zy73).env 0 (sub zc73 [0, 1, 0, 1, 1]) zaud :=
  zs3 (A := za1h) zh73 Facts.mix ⟨za1g, trivial⟩ (k := zdk (sub zc73 [0, 1, 0, 1, 1])) (by kernel_rfl) rfl rfl (by rintro ⟨x0, x1, x2⟩; kernel_rfl)
def za73 : Ann := ⟨[([0, 1, 0, 1, 1], zaud)], [], [], zv73, []⟩
def zkq (a0 : za) : Tr (Bool) :=
  (.bind (zkd a0.Stake) fun v1 =>
  (.guard (((((((!v1) || (decide (a0.Height < 0))) || (decide (a0.Height ≥ 1099511627776))) || (decide (a0.Time < 0))) || (decide (a0.Time > 1099511627776))) = false → ((zdz a0.Set).isSome = true) ∧ True))
  (.ite ((((((!v1) || (decide (a0.Height < 0))) || (decide (a0.Height ≥ 1099511627776))) || (decide (a0.Time < 0))) || (decide (a0.Time > 1099511627776))) || (!((zdz a0.Set).getD default)))
    (.leaf false)
    (.two (zjl a0.Links 0 a0) (fun v4 =>
      (.leaf v4)) (fun v5 =>
      (.bind (zcg v5.Queue v5) fun v6 =>
      (.leaf (!v6.1))))))))
def zbq (a0 : za) : Option (Bool) := (zkq a0).run
def zr73 : LQ (za) := (Par.q (Par.ofLP providerL))
def zt8 : LQ (Bool) := (Par.q boolP)
def zcw : SpecT := zu 0 zr73 1 [] (fun s => zkq s) default zt8 1 []
theorem zdl : zh Tryz.prog 25 (zcw).spec :=
  ze (A := za73) zh73 Facts.mix Tryz.func25 (c := zc73) (by kernel_rfl) (Lc := 0) ⟨za1j, trivial⟩ zr73 1 4 [] (fun s => zkq s) default zt8 1 [] [] (by decide) (by kernel_rfl) (by rfl) (by decide) (by decide) (by rfl)
    (by rintro a0; kernel_rfl)
noncomputable def zc74 : Code := Tryz.f60.body.getD .skip
def zv74 : List (List Nat) := [[1, 2, 3, 4, 8], [1, 2, 3, 4, 8, 14], [8, 9], [4, 8, 10, 11], [4, 8, 10, 11, 26], [8, 9], [4, 8], [8, 9]]
noncomputable def zy74 : EnvT := ⟨Tryz.prog, zt [(25, zcw), (76, zt0)]⟩
theorem zh74 : (zy74).Ok := zd ⟨zdl, z1k, trivial⟩
def za74 : Ann := ⟨[], [], [], zv74, []⟩
def zf6 (a0 : za) (a1 : Int) (a2 : Int) (a3 : Int) : Tr (za × Int) :=
  (.bind (zbq a0) fun v1 =>
  (.ite (!v1)
    (.leaf (a0, 2))
    (.bind (zln a0.Stake a1 a2 a3) fun v2 =>
    (.ite (v2.2 != 0)
      (.leaf (a0, v2.2))
      (.leaf ({ (a0 : za) with Stake := v2.1 }, 0))))))
def zid (a0 : za) (a1 : Int) (a2 : Int) (a3 : Int) : Option (za × Int) := (zf6 a0 a1 a2 a3).run
def zr74 : LQ (za × Int × Int × Int) := (LQ.seq (Par.q (Par.ofLP providerL)) (LQ.seq (Par.q intP) (LQ.seq (Par.q intP) (Par.q intP))))
def znr : LQ (za × Int) := (LQ.seq (Par.q (Par.ofLP providerL)) (Par.q intP))
def zpm : SpecT := zu 0 zr74 4 [] (fun s => zf6 s.1 s.2.1 s.2.2.1 s.2.2.2) default znr 2 []
theorem zw8 : zh Tryz.prog 60 (zpm).spec :=
  ze (A := za74) zh74 Facts.mix Tryz.func60 (c := zc74) (by kernel_rfl) (Lc := 0) trivial zr74 4 5 [] (fun s => zf6 s.1 s.2.1 s.2.2.1 s.2.2.2) default znr 2 [] [.pubB 8] (by decide) (by kernel_rfl) (by rfl) (by decide) (by decide) (by rfl)
    (by rintro ⟨a0, a1, a2, a3⟩; kernel_rfl)
noncomputable def zc75 : Code := Tryz.f61.body.getD .skip
def zv75 : List (List Nat) := [[1, 2, 3, 4, 5, 10], [1, 2, 3, 4, 5, 10, 27], [10, 11], [1, 2, 3, 5, 10, 12], [1, 2, 3, 5, 10, 12, 35], [1, 2, 3, 5, 10, 12, 35, 36], [1, 2, 3, 5, 10, 12, 13, 35], [1, 2, 3, 5, 10, 12, 13, 35, 42], [1, 2, 3, 5, 10, 12, 35], [1, 2, 3, 5, 10, 12, 35], [5, 10, 14, 15], [5, 10, 14, 15, 61], [10, 11], [5, 10], [5, 10, 66], [5, 10, 66, 67], [5, 10, 16, 66], [5, 10, 66], [5, 10, 66], [10, 11]]
noncomputable def zy75 : EnvT := ⟨Tryz.prog, zt [(25, zcw), (77, zqn)]⟩
theorem zh75 : (zy75).Ok := zd ⟨zdl, zyw, trivial⟩
def zaz (x0 : Int) (x1 : Int) (x2 : Int) (x3 : Int) (x4 : za) (x5 : za) (x6 : Wait) : Tr ((Int × Int × Int × Int × za × za × Wait) ⊕ (Int × Int × Int × za × za × Wait)) :=
  (.ite (decide (x3 < 2))
    (.guard ((0 : Int) ≤ x3 ∧ (x3 : Int) < 2)
    (.ite (x4.Links.On.get x3)
      (.guard ((0 : Int) ≤ x3 ∧ (x3 : Int) < 2)
      (.leaf (.inl (x0, x1, x2, IntKind.i64.wrap (x3 + 1), x4, x5, { (x6 : Wait) with h0 := if x3 = 0 then IntKind.i64.wrap (x4.Height + 1) else x6.h0, h1 := if x3 = 1 then IntKind.i64.wrap (x4.Height + 1) else x6.h1 }))))
      (.leaf (.inl (x0, x1, x2, IntKind.i64.wrap (x3 + 1), x4, x5, x6)))))
    (.leaf (.inr (x0, x1, x2, x4, x5, x6))))
def zex (x0 : Int) (x1 : Int) (x2 : Int) (x3 : Int) (x4 : za) (x5 : za) (x6 : Wait) : Option (Int × Int × Int × za × za × Wait) := ze1 (fun s : Int × Int × Int × Int × za × za × Wait => (zaz s.1 s.2.1 s.2.2.1 s.2.2.2.1 s.2.2.2.2.1 s.2.2.2.2.2.1 s.2.2.2.2.2.2).run) (x0, x1, x2, x3, x4, x5, x6)
def za1n : Ann := ⟨[], [], [], zv75, []⟩
def za1o : EndD (Int × Int × Int × Int × za × za × Wait) := ⟨(LQ.seq (Par.q intP) (LQ.seq (Par.q intP) (LQ.seq (Par.q intP) (LQ.skip (LQ.const (.ptr 0 0)) (LQ.skip (LQ.const (.ptr 1 0)) (LQ.skip (LQ.const (.ptr 2 0)) (LQ.seq (Par.q intP) (LQ.seq (LP.q providerL) (LQ.seq (LP.q providerL) (LP.q zao3)))))))))), ⟨[1, 2, 3, 5, 10, 12, 35], []⟩, [.cells 61 97, .cells 61 97, .cells 98 8]⟩
def zaqv : EndD (Int × Int × Int × za × za × Wait) := ⟨(LQ.seq (Par.q intP) (LQ.seq (Par.q intP) (LQ.seq (Par.q intP) (LQ.skip (LQ.const (.ptr 0 0)) (LQ.skip (LQ.const (.ptr 1 0)) (LQ.skip (LQ.const (.ptr 2 0)) (LQ.seq (LP.q providerL) (LQ.seq (LP.q providerL) (LP.q zao3))))))))), ⟨[1, 2, 3, 5, 10, 12], []⟩, [.cells 61 97, .cells 61 97, .cells 98 8]⟩
def zauf : St → Option LR := L1 87 6 0 za1o (.exit 0) zaqv (fun s => zaz s.1 s.2.1 s.2.2.1 s.2.2.2.1 s.2.2.2.2.1 s.2.2.2.2.2.1 s.2.2.2.2.2.2)
theorem za1p : zv (zy75).env 0 (sub zc75 [0, 1, 0, 1, 1, 1]) zauf :=
  zii (A := za1n) zh75 Facts.mix trivial (k := zdk (sub zc75 [0, 1, 0, 1, 1, 1])) (by kernel_rfl) rfl (by rintro ⟨x0, x1, x2, x3, x4, x5, x6⟩; kernel_rfl)
def zba (x0 : Int) (x1 : za) (x2 : za) : Tr ((Int × za × za) ⊕ (za × za)) :=
  (.ite (decide (x0 < 2))
    (.guard ((0 : Int) ≤ x0 ∧ (x0 : Int) < 2)
    (.guard (((x1.Links.Fresh.get x0) = false → ((0 : Int) ≤ x0 ∧ (x0 : Int) < 2) ∧ True))
    (.guard ((0 : Int) ≤ x0 ∧ (x0 : Int) < 2)
    (.leaf (.inl (IntKind.i64.wrap (x0 + 1), { (x1 : za) with Links := { (x1.Links : Links) with Fresh := (x1.Links.Fresh.set x0 ((x1.Links.Fresh.get x0) || (x1.Links.On.get x0))) } }, x2))))))
    (.leaf (.inr (x1, x2))))
def zix (x0 : Int) (x1 : za) (x2 : za) : Option (za × za) := ze1 (fun s : Int × za × za => (zba s.1 s.2.1 s.2.2).run) (x0, x1, x2)
def za1q : Ann := ⟨[], [], [], zv75, []⟩
def za1r : EndD (Int × za × za) := ⟨(LQ.skip (LQ.const (.ptr 0 0)) (LQ.skip (LQ.const (.ptr 1 0)) (LQ.seq (Par.q intP) (LQ.seq (LP.q providerL) (LP.q providerL))))), ⟨[5, 10, 66], []⟩, [.cells 61 97, .cells 61 97]⟩
def zaqw : EndD (za × za) := ⟨(LQ.skip (LQ.const (.ptr 0 0)) (LQ.skip (LQ.const (.ptr 1 0)) (LQ.seq (LP.q providerL) (LP.q providerL)))), ⟨[5, 10], []⟩, [.cells 61 97, .cells 61 97]⟩
def zaug : St → Option LR := L1 87 6 0 za1r (.exit 2) zaqw (fun s => zba s.1 s.2.1 s.2.2)
theorem za1s : zv (zy75).env 0 (sub zc75 [0, 1, 0, 1, 1, 1, 1, 1, 1, 1]) zaug :=
  zii (A := za1q) zh75 Facts.mix trivial (k := zdk (sub zc75 [0, 1, 0, 1, 1, 1, 1, 1, 1, 1])) (by kernel_rfl) rfl (by rintro ⟨x0, x1, x2⟩; kernel_rfl)
def za75 : Ann := ⟨[([0, 1, 0, 1, 1, 1], zauf), ([0, 1, 0, 1, 1, 1, 1, 1, 1, 1], zaug)], [], [], zv75, []⟩
def zep (a0 : za) (a1 : Int) (a2 : Int) (a3 : Int) (a4 : Int) : Tr (za × Int) :=
  (.bind (zbq a0) fun v1 =>
  (.ite (((!v1) || (decide (a4 < 0))) || (decide (a4 > 1099511627776)))
    (.leaf (a0, 2))
    (.bind (zex a1 a2 a3 0 a0 (default : za) (⟨0, 0, 0, 0, IntKind.i64.wrap (a0.Height + 1), IntKind.i64.wrap (a4 + 20), 0, 0⟩ : Wait)) fun v2 =>
    (.bind (zji v2.2.2.2.1.Stake v2.1 v2.2.1 v2.2.2.1 v2.2.2.2.2.2) fun v3 =>
    (.ite (v3.2 != 0)
      (.leaf (v2.2.2.2.1, v3.2))
      (.bind (zix 0 ({ (v2.2.2.2.1 : za) with Stake := v3.1 }) v2.2.2.2.2.1) fun v4 =>
      (.leaf (v4.1, 0))))))))
def zbk (a0 : za) (a1 : Int) (a2 : Int) (a3 : Int) (a4 : Int) : Option (za × Int) := (zep a0 a1 a2 a3 a4).run
def zr75 : LQ (za × Int × Int × Int × Int) := (LQ.seq (Par.q (Par.ofLP providerL)) (LQ.seq (Par.q intP) (LQ.seq (Par.q intP) (LQ.seq (Par.q intP) (Par.q intP)))))
def zlc : LQ (za × Int) := (LQ.seq (Par.q (Par.ofLP providerL)) (Par.q intP))
def zm0 : SpecT := zu 0 zr75 5 [] (fun s => zep s.1 s.2.1 s.2.2.1 s.2.2.2.1 s.2.2.2.2) default zlc 2 []
theorem zuj : zh Tryz.prog 61 (zm0).spec :=
  ze (A := za75) zh75 Facts.mix Tryz.func61 (c := zc75) (by kernel_rfl) (Lc := 0) ⟨za1p, za1s, trivial⟩ zr75 5 6 [] (fun s => zep s.1 s.2.1 s.2.2.1 s.2.2.2.1 s.2.2.2.2) default zlc 2 [] [.pubB 10] (by decide) (by kernel_rfl) (by rfl) (by decide) (by decide) (by rfl)
    (by rintro ⟨a0, a1, a2, a3, a4⟩; kernel_rfl)
noncomputable def zc76 : Code := Tryz.f82.body.getD .skip
def zv76 : List (List Nat) := [[1, 2, 4], [1, 2, 4, 8], [4, 5], [1, 2, 4, 13], [4, 5], [1, 2, 4, 21], [4, 5], [1, 2, 4, 28], [4, 5], [1, 2, 4, 35], [4, 5], [1, 2, 4], [1, 2, 4], [1, 2, 4, 64, 65], [1, 2, 4, 64, 65, 66], [1, 2, 4, 6, 64, 65], [1, 2, 4, 7, 64, 65], [1, 2, 4, 7, 64, 65, 79], [1, 2, 4, 64, 65], [1, 2, 4, 64, 65], [1, 2, 4, 64, 65], [4, 5]]
noncomputable def zy76 : EnvT := ⟨Tryz.prog, zt [(25, zcw), (102, zd9), (94, zb0)]⟩
theorem zh76 : (zy76).Ok := zd ⟨zdl, zg4, zdc, trivial⟩
def zd0 (x0 : Int) (x1 : Int) (x2 : Int) (x3 : za) (x4 : za) : Tr ((Int × Int × Int × za × za) ⊕ (za × za)) :=
  (.ite (decide (x2 < x1))
    (.guard ((0 : Int) ≤ x2 ∧ x2 < ((Sl.len (.waits x3.Stake.Waits) : Nat) : Int))
    (.ite (decide (((x3.Stake.Waits.getD x2.toNat default).Height) > x3.Height))
      (.guard ((0 : Int) ≤ x0 ∧ (x0 : Int) < 2)
      (.guard ((0 : Int) ≤ x0 ∧ (x0 : Int) < 2)
      (.leaf (.inl (x0, x1, IntKind.i64.wrap (x2 + 1), { (x3 : za) with Stake := { (x3.Stake : Stake) with Waits := x3.Stake.Waits.set x2.toNat ({ ((x3.Stake.Waits.getD x2.toNat default) : Wait) with h0 := if x0 = 0 then (x3.Stake.Waits.getD x2.toNat default).Height else (x3.Stake.Waits.getD x2.toNat default).h0, h1 := if x0 = 1 then (x3.Stake.Waits.getD x2.toNat default).Height else (x3.Stake.Waits.getD x2.toNat default).h1 }) }, Links := { (x3.Links : Links) with Fresh := (x3.Links.Fresh.set x0 true) } }, x4)))))
      (.leaf (.inl (x0, x1, IntKind.i64.wrap (x2 + 1), x3, x4)))))
    (.leaf (.inr (x3, x4))))
def zie (x0 : Int) (x1 : Int) (x2 : Int) (x3 : za) (x4 : za) : Option (za × za) := ze1 (fun s : Int × Int × Int × za × za => (zd0 s.1 s.2.1 s.2.2.1 s.2.2.2.1 s.2.2.2.2).run) (x0, x1, x2, x3, x4)
def za1u : Ann := ⟨[], [], [], zv76, []⟩
def za1v : EndD (Int × Int × Int × za × za) := ⟨(LQ.map (LQ.seq (Par.q intP) (LQ.skip (LQ.const (.ptr 0 0)) (LQ.skip (LQ.const (.ptr 1 0)) (LQ.seq (Par.q intP) (LQ.seq (Par.q intP) (LQ.seq (Par.q intP) (LQ.seq (Par.q intP) (LQ.seq (LP.q bankL) (LQ.seq (LP.q validatorsL) (LQ.seq (LP.q (a4L (a6L (LP.one intP)))) (LQ.skip (LQ.const (.own 2)) (LQ.seq (Par.q intP) (LQ.seq (Par.q zp) (LQ.seq (LP.q linksL) (LQ.seq (LP.q meterL) (LQ.seq (Par.q ze8) (LQ.seq (LP.q providerL) (Par.q zmu)))))))))))))))))) (fun x : Int × Int × Int × Int × Int × Bank × Validators × (A4 (A6 Int)) × Int × (List Power) × Links × Meter × (List Asked) × za × (List Wait) => ((x.1, x.2.1, x.2.2.1, (⟨x.2.2.2.1, x.2.2.2.2.1, (⟨x.2.2.2.2.2.1, x.2.2.2.2.2.2.1, x.2.2.2.2.2.2.2.1, x.2.2.2.2.2.2.2.2.2.2.2.2.2.2, x.2.2.2.2.2.2.2.2.1⟩ : Stake), x.2.2.2.2.2.2.2.2.2.1, x.2.2.2.2.2.2.2.2.2.2.1, x.2.2.2.2.2.2.2.2.2.2.2.1, x.2.2.2.2.2.2.2.2.2.2.2.2.1⟩ : za), x.2.2.2.2.2.2.2.2.2.2.2.2.2.1) : Int × Int × Int × za × za)) (fun y => (y.1, y.2.1, y.2.2.1, y.2.2.2.1.Height, y.2.2.2.1.Time, y.2.2.2.1.Stake.Bank, y.2.2.2.1.Stake.Validators, y.2.2.2.1.Stake.Shares, y.2.2.2.1.Stake.Next, y.2.2.2.1.Set, y.2.2.2.1.Links, y.2.2.2.1.Meter, y.2.2.2.1.Queue, y.2.2.2.2, y.2.2.2.1.Stake.Waits)) (fun _ => rfl)), ⟨[1, 2, 4, 64, 65], [.nilcell 2 63 98 (.waits [])]⟩, [.cells 61 97, .cells 61 97, .rows 98]⟩
def zaqx : EndD (za × za) := ⟨(LQ.map (LQ.skip (LQ.const (.ptr 0 0)) (LQ.skip (LQ.const (.ptr 1 0)) (LQ.seq (Par.q intP) (LQ.seq (Par.q intP) (LQ.seq (LP.q bankL) (LQ.seq (LP.q validatorsL) (LQ.seq (LP.q (a4L (a6L (LP.one intP)))) (LQ.skip (LQ.const (.own 2)) (LQ.seq (Par.q intP) (LQ.seq (Par.q zp) (LQ.seq (LP.q linksL) (LQ.seq (LP.q meterL) (LQ.seq (Par.q ze8) (LQ.seq (LP.q providerL) (Par.q zmu))))))))))))))) (fun x : Int × Int × Bank × Validators × (A4 (A6 Int)) × Int × (List Power) × Links × Meter × (List Asked) × za × (List Wait) => (((⟨x.1, x.2.1, (⟨x.2.2.1, x.2.2.2.1, x.2.2.2.2.1, x.2.2.2.2.2.2.2.2.2.2.2, x.2.2.2.2.2.1⟩ : Stake), x.2.2.2.2.2.2.1, x.2.2.2.2.2.2.2.1, x.2.2.2.2.2.2.2.2.1, x.2.2.2.2.2.2.2.2.2.1⟩ : za), x.2.2.2.2.2.2.2.2.2.2.1) : za × za)) (fun y => (y.1.Height, y.1.Time, y.1.Stake.Bank, y.1.Stake.Validators, y.1.Stake.Shares, y.1.Stake.Next, y.1.Set, y.1.Links, y.1.Meter, y.1.Queue, y.2, y.1.Stake.Waits)) (fun _ => rfl)), ⟨[2, 4], [.nilcell 2 63 98 (.waits [])]⟩, [.cells 61 97, .cells 61 97, .rows 98]⟩
def zauh : St → Option LR := L1 95 5 0 za1v (.exit 1) zaqx (fun s => zd0 s.1 s.2.1 s.2.2.1 s.2.2.2.1 s.2.2.2.2)
theorem za1w : zv (zy76).env 0 (sub zc76 [0, 1, 0, 1, 1, 1, 1]) zauh :=
  zii (A := za1u) zh76 Facts.mix trivial (k := zdk (sub zc76 [0, 1, 0, 1, 1, 1, 1])) (by kernel_rfl) rfl (by rintro ⟨x0, x1, x2, x3, x4⟩; kernel_rfl)
def za76 : Ann := ⟨[([0, 1, 0, 1, 1, 1, 1], zauh)], [], [], zv76, []⟩
def zja (a0 : za) (a1 : Int) : Tr (za × Int) :=
  (.bind (zbq a0) fun v1 =>
  (.ite (!v1)
    (.leaf (a0, 2))
    (.ite ((decide (a1 < 0)) || (decide (a1 ≥ 2)))
      (.leaf (a0, 4))
      (.guard ((0 : Int) ≤ a1 ∧ (a1 : Int) < 2)
      (.ite (a0.Links.Gone.get a1)
        (.leaf (a0, 11))
        (.guard ((0 : Int) ≤ a1 ∧ (a1 : Int) < 2)
        (.ite (a0.Links.On.get a1)
          (.leaf (a0, 5))
          (.ite ((decide (a0.Height < 1)) || (((a0.Set.length : Nat) : Int) == 0))
            (.leaf (a0, 13))
            (.guard ((zaj a0.Set).isSome = true)
            (.guard ((0 : Int) ≤ a1 ∧ (a1 : Int) < 2)
            (.bind (zr a0.Stake.Waits) fun v2 =>
            (.bind (zie a1 ((v2.length : Nat) : Int) 0 ({ (a0 : za) with Stake := { (a0.Stake : Stake) with Waits := v2 }, Links := (⟨(a0.Links.On.set a1 true), (a0.Links.Gone.set a1 false), (a0.Links.Base.set a1 a0.Height), (a0.Links.Told.set a1 ((zaj a0.Set).getD default)), (a0.Links.Fresh.set a1 false), (a0.Links.Done.set a1 []), (a0.Links.Said.set a1 []), (a0.Links.Due.set a1 []), (a0.Links.Got.set a1 0), (a0.Links.Closed.set a1 false), (a0.Links.SHeight.set a1 0), (a0.Links.STime.set a1 0), (a0.Links.SSaid.set a1 0), (a0.Links.SGot.set a1 0)⟩ : Links) }) (default : za)) fun v3 =>
            (.leaf (v3.1, 0))))))))))))))
def zak (a0 : za) (a1 : Int) : Option (za × Int) := (zja a0 a1).run
def zr76 : LQ (za × Int) := (LQ.seq (Par.q (Par.ofLP providerL)) (Par.q intP))
def zsf : LQ (za × Int) := (LQ.seq (Par.q (Par.ofLP providerL)) (Par.q intP))
def zt9 : SpecT := zu 0 zr76 2 [] (fun s => zja s.1 s.2) default zsf 2 []
theorem z1m : zh Tryz.prog 82 (zt9).spec :=
  ze (A := za76) zh76 Facts.mix Tryz.func82 (c := zc76) (by kernel_rfl) (Lc := 0) ⟨za1w, trivial⟩ zr76 2 5 [] (fun s => zja s.1 s.2) default zsf 2 [] [.pubB 4] (by decide) (by kernel_rfl) (by rfl) (by decide) (by decide) (by rfl)
    (by rintro ⟨a0, a1⟩; kernel_rfl)
noncomputable def zc77 : Code := Tryz.f137.body.getD .skip
def zv77 : List (List Nat) := [[1, 2], [3]]
noncomputable def zy77 : EnvT := ⟨Tryz.prog, zt []⟩
theorem zh77 : (zy77).Ok := zd trivial
def za77 : Ann := ⟨[], [], [], zv77, []⟩
def zf7 (a0 : Asked) (a1 : Int) : Tr (Bool × Int) :=
  (.leaf (a0.C == a1, a1))
def ze5 (a0 : Asked) (a1 : Int) : Option (Bool × Int) := (zf7 a0 a1).run
def zr77 : LQ (Asked × Int) := (LQ.seq (Par.q (Par.ofLP zah2)) (LQ.skip (LQ.const (.ptr 0 0)) (Par.q intP)))
def zns : LQ (Bool × Int) := (LQ.seq (Par.q boolP) (Par.q intP))
def zjm : SpecT := zu 1 zr77 2 [.cells 3 1] (fun s => zf7 s.1 s.2) default zns 1 [.cells 3 1]
theorem znt : zh Tryz.prog 137 (zjm).spec :=
  ze (A := za77) zh77 Facts.mix Tryz.func137 (c := zc77) (by kernel_rfl) (Lc := 1) trivial zr77 2 4 [.cells 3 1] (fun s => zf7 s.1 s.2) default zns 1 [.cells 3 1] [] (by decide) (by kernel_rfl) (by rfl) (by decide) (by decide) (by rfl)
    (by rintro ⟨a0, a1⟩; kernel_rfl)
noncomputable def zc78 : Code := Tryz.f75.body.getD .skip
def zv78 : List (List Nat) := [[0, 1], [0, 1, 7, 8], [0, 1, 7, 8, 9], [0, 1, 5, 7, 8], [0, 1, 5, 7, 8, 16], [4], [0, 1, 7, 8], [4]]
noncomputable def zy78 : EnvT := ⟨Tryz.prog, zt [(137, zjm)]⟩
theorem zh78 : (zy78).Ok := zd ⟨znt, trivial⟩
def zad (x0 : Int) (x1 : Int) (x2 : Int) (x3 : (List Asked)) : Tr ((Int × Int × Int × (List Asked)) ⊕ ((Int × Int × (List Asked)) ⊕ (Int × (List Asked)))) :=
  (.ite (decide (x1 < x0))
    (.guard ((0 : Int) ≤ x1 ∧ x1 < ((Sl.len (.asked x3) : Nat) : Int))
    (.bind (ze5 (x3.getD x1.toNat default) x2) fun v1 =>
    (.ite (v1.1)
      (.leaf (.inr (.inl (x1, v1.2, x3))))
      (.leaf (.inl (x0, IntKind.i64.wrap (x1 + 1), v1.2, x3))))))
    (.leaf (.inr (.inr (x2, x3)))))
def zbz (x0 : Int) (x1 : Int) (x2 : Int) (x3 : (List Asked)) : Option ((Int × Int × (List Asked)) ⊕ (Int × (List Asked))) := ze1 (fun s : Int × Int × Int × (List Asked) => (zad s.1 s.2.1 s.2.2.1 s.2.2.2).run) (x0, x1, x2, x3)
def za1y : Ann := ⟨[], [], [], zv78, []⟩
def za1z : EndD (Int × Int × Int × (List Asked)) := ⟨(LQ.skip (LQ.const (.own 1)) (LQ.skip (LQ.const (.fn 137 [.ptr 0 0])) (LQ.seq (Par.q intP) (LQ.seq (Par.q intP) (LQ.seq (Par.q intP) (Par.q ze8)))))), ⟨[0, 1, 7, 8], [.nilown 0 101 (.asked [])]⟩, [.cells 3 1, .rows 101]⟩
def zaqy : EndD (Int × Int × (List Asked)) := ⟨(LQ.seq (Par.q intP) (LQ.seq (Par.q intP) (Par.q ze8))), ⟨[4], []⟩, [.cells 3 1, .rows 101]⟩
def zaqz : EndD (Int × (List Asked)) := ⟨(LQ.seq (Par.q intP) (Par.q ze8)), ⟨[], []⟩, [.cells 3 1, .rows 101]⟩
def zaui : St → Option LR := L2 19 4 2 za1z .ret zaqy (.exit 0) zaqz (fun s => zad s.1 s.2.1 s.2.2.1 s.2.2.2)
theorem za2a : zv (zy78).env 2 (sub zc78 [0, 1, 0, 1]) zaui :=
  zs3 (A := za1y) zh78 Facts.mix trivial (k := zdk (sub zc78 [0, 1, 0, 1])) (by kernel_rfl) rfl rfl (by rintro ⟨x0, x1, x2, x3⟩; kernel_rfl)
def za78 : Ann := ⟨[([0, 1, 0, 1], zaui)], [], [], zv78, []⟩
def zbj (a0 : Int) (a1 : (List Asked)) : Tr (Int × Int × (List Asked)) :=
  (.two (zbz ((a1.length : Nat) : Int) 0 a0 a1) (fun v2 =>
    (.leaf (v2.1, v2.2.1, v2.2.2))) (fun v3 =>
    (.leaf (-1, v3.1, v3.2))))
def zbf (a0 : Int) (a1 : (List Asked)) : Option (Int × Int × (List Asked)) := (zbj a0 a1).run
def zr78 : LQ (Int × (List Asked)) := (LQ.skip (LQ.const (.own 1)) (LQ.skip (LQ.const (.fn 137 [.ptr 0 0])) (LQ.seq (Par.q intP) (Par.q ze8))))
def zfm : LQ (Int × Int × (List Asked)) := (LQ.seq (Par.q intP) (LQ.seq (Par.q intP) (Par.q ze8)))
def zfw : SpecT := zu 2 zr78 2 [.cells 3 1, .rows 101] (fun s => zbj s.1 s.2) default zfm 1 [.cells 3 1, .rows 101]
theorem zls : zh Tryz.prog 75 (zfw).spec :=
  ze (A := za78) zh78 Facts.mix Tryz.func75 (c := zc78) (by kernel_rfl) (Lc := 2) ⟨za2a, trivial⟩ zr78 2 4 [.cells 3 1, .rows 101] (fun s => zbj s.1 s.2) default zfm 1 [.cells 3 1, .rows 101] [] (by decide) (by kernel_rfl) (by rfl) (by decide) (by decide) (by rfl)
    (by rintro ⟨a0, a1⟩; kernel_rfl)
noncomputable def zc79 : Code := Tryz.f136.body.getD .skip
def zv79 : List (List Nat) := [[0, 1], [0, 1, 5], [0, 1, 5, 12], [4], [0, 1, 5, 6], [0, 1, 5, 6, 19], [0, 1, 5, 6], [0, 1, 5, 6, 7], [0, 1, 5, 6, 7, 29], [0, 1, 5, 6], [0, 1, 5, 6], [0, 5], [4]]
noncomputable def zy79 : EnvT := ⟨Tryz.prog, zt [(75, zfw), (137, zjm)]⟩
theorem zh79 : (zy79).Ok := zd ⟨zls, znt, trivial⟩
def zauj : St → Option LR := clearL 0 5 36 37 38
theorem za2c : zv (zy79).env 1 (sub zc79 [0, 1, 1, 1, 1]) zauj :=
  zals (T := 59) (E := 101) (z := (zl Tryz.prog (zeroValue 101)).getD undef) (by kernel_rfl) (by kernel_rfl) (by kernel_rfl) (by kernel_rfl) (by decide) (by decide) (by kernel_rfl) (by kernel_rfl) (by kernel_rfl) (by kernel_rfl)
def zah (x0 : Int) (x1 : Int) (x2 : Int) (x3 : (List Asked)) : Tr ((Int × Int × Int × (List Asked)) ⊕ (Int × Int × (List Asked))) :=
  (.ite (decide (x1 < ((x3.length : Nat) : Int)))
    (.guard ((0 : Int) ≤ x1 ∧ x1 < ((Sl.len (.asked x3) : Nat) : Int))
    (.bind (ze5 (x3.getD x1.toNat default) x2) fun v2 =>
    (.ite (!v2.1)
      (.guard ((0 : Int) ≤ x0 ∧ x0 < ((Sl.len (.asked x3) : Nat) : Int))
      (.leaf (.inl (IntKind.i64.wrap (x0 + 1), IntKind.i64.wrap (x1 + 1), v2.2, x3.set x0.toNat (x3.getD x1.toNat default)))))
      (.leaf (.inl (x0, IntKind.i64.wrap (x1 + 1), v2.2, x3))))))
    (.leaf (.inr (x0, x2, x3))))
def zb4 (x0 : Int) (x1 : Int) (x2 : Int) (x3 : (List Asked)) : Option (Int × Int × (List Asked)) := ze1 (fun s : Int × Int × Int × (List Asked) => (zah s.1 s.2.1 s.2.2.1 s.2.2.2).run) (x0, x1, x2, x3)
def za2d : Ann := ⟨[], [], [], zv79, []⟩
def za2e : EndD (Int × Int × Int × (List Asked)) := ⟨(LQ.skip (LQ.const (.own 1)) (LQ.skip (LQ.const (.fn 137 [.ptr 0 0])) (LQ.seq (Par.q intP) (LQ.seq (Par.q intP) (LQ.seq (Par.q intP) (Par.q ze8)))))), ⟨[0, 1, 5, 6], [.nilown 0 101 (.asked [])]⟩, [.cells 3 1, .rows 101]⟩
def zaq0 : EndD (Int × Int × (List Asked)) := ⟨(LQ.skip (LQ.const (.own 1)) (LQ.seq (Par.q intP) (LQ.seq (Par.q intP) (Par.q ze8)))), ⟨[0, 5], [.nilown 0 101 (.asked [])]⟩, [.cells 3 1, .rows 101]⟩
def zauk : St → Option LR := L1 42 5 1 za2e (.exit 0) zaq0 (fun s => zah s.1 s.2.1 s.2.2.1 s.2.2.2)
theorem za2f : zv (zy79).env 1 (sub zc79 [0, 1, 0, 1, 1, 1]) zauk :=
  zii (A := za2d) zh79 Facts.mix trivial (k := zdk (sub zc79 [0, 1, 0, 1, 1, 1])) (by kernel_rfl) rfl (by rintro ⟨x0, x1, x2, x3⟩; kernel_rfl)
def za79 : Ann := ⟨[([0, 1, 0, 1, 1, 1], zauk), ([0, 1, 1, 1, 1], zauj)], [], [], zv79, []⟩
def zbr (a0 : Int) (a1 : (List Asked)) : Tr (Int × (List Asked)) :=
  (.bind (zbf a0 a1) fun v1 =>
  (.ite (v1.1 == (-1))
    (.leaf (v1.2.1, v1.2.2))
    (.bind (zb4 v1.1 (IntKind.i64.wrap (v1.1 + 1)) v1.2.1 v1.2.2) fun v3 =>
    (.bind (zaan v3.2.2 v3.1) fun v4 =>
    (.guard ((0 : Int) ≤ v3.1 ∧ v3.1 ≤ ((Sl.len (.asked v4) : Nat) : Int))
    (.leaf (v3.2.1, ((v4.drop 0).take (v3.1.toNat - 0)))))))))
def zcx (a0 : Int) (a1 : (List Asked)) : Option (Int × (List Asked)) := (zbr a0 a1).run
def zr79 : LQ (Int × (List Asked)) := (LQ.skip (LQ.const (.own 1)) (LQ.skip (LQ.const (.fn 137 [.ptr 0 0])) (LQ.seq (Par.q intP) (Par.q ze8))))
def zfx : LQ (Int × (List Asked)) := (LQ.skip (LQ.const (.own 1)) (LQ.seq (Par.q intP) (Par.q ze8)))
def zgh : SpecT := zu 1 zr79 2 [.cells 3 1, .rows 101] (fun s => zbr s.1 s.2) default zfx 1 [.cells 3 1, .rows 101]
theorem zm1 : zh Tryz.prog 136 (zgh).spec :=
  ze (A := za79) zh79 Facts.mix Tryz.func136 (c := zc79) (by kernel_rfl) (Lc := 1) ⟨za2f, za2c, trivial⟩ zr79 2 5 [.cells 3 1, .rows 101] (fun s => zbr s.1 s.2) default zfx 1 [.cells 3 1, .rows 101] [.nilown 4 101 (.asked [])] (by decide) (by kernel_rfl) (by rfl) (by decide) (by decide) (by rfl)
    (by rintro ⟨a0, a1⟩; kernel_rfl)
noncomputable def zc80 : Code := Tryz.f110.body.getD .skip
def zv80 : List (List Nat) := [[2, 3, 4], [2, 3, 4, 23], [4], [2, 3, 4], [2, 3, 4], [2, 3, 4], [2, 4], [4]]
noncomputable def zy80 : EnvT := ⟨Tryz.prog, zt [(25, zcw), (121, zpe), (134, zfa), (136, zgh)]⟩
theorem zh80 : (zy80).Ok := zd ⟨zdl, zt2, zir, zm1, trivial⟩
def za80 : Ann := ⟨[], [], [], zv80, []⟩
def zhv (a0 : za) (a1 : Int) : Tr (za) :=
  (.bind (zbq a0) fun v1 =>
  (.guard (((((!v1) || (decide (a1 < 0))) || (decide (a1 ≥ 2))) = false → ((0 : Int) ≤ a1 ∧ (a1 : Int) < 2) ∧ True))
  (.ite ((((!v1) || (decide (a1 < 0))) || (decide (a1 ≥ 2))) || (!(a0.Links.On.get a1)))
    (.leaf a0)
    (.guard ((0 : Int) ≤ a1 ∧ (a1 : Int) < 2)
    (.guard ((0 : Int) ≤ a1 ∧ (a1 : Int) < 2)
    (.guard ((0 : Int) ≤ a1 ∧ (a1 : Int) < 2)
    (.guard ((0 : Int) ≤ a1 ∧ (a1 : Int) < 2)
    (.guard ((0 : Int) ≤ a1 ∧ (a1 : Int) < 2)
    (.bind (zgc a0.Stake a1 1099511627776) fun v2 =>
    (.bind (zap a0.Queue) fun v3 =>
    (.bind (zcx a1 v3) fun v4 =>
    (.leaf ({ (a0 : za) with Stake := v2, Links := { (a0.Links : Links) with On := (a0.Links.On.set a1 false), Gone := (a0.Links.Gone.set a1 true), Fresh := (a0.Links.Fresh.set a1 false), Done := (a0.Links.Done.set a1 []), Closed := (a0.Links.Closed.set a1 true) }, Queue := v4.2 })))))))))))))
def zdh (a0 : za) (a1 : Int) : Option (za) := (zhv a0 a1).run
def zr80 : LQ (za × Int) := (LQ.seq (Par.q (Par.ofLP providerL)) (Par.q intP))
def zqz : LQ (za) := (Par.q (Par.ofLP providerL))
def zsg : SpecT := zu 0 zr80 2 [] (fun s => zhv s.1 s.2) default zqz 1 []
theorem z0w : zh Tryz.prog 110 (zsg).spec :=
  ze (A := za80) zh80 Facts.mix Tryz.func110 (c := zc80) (by kernel_rfl) (Lc := 0) trivial zr80 2 7 [] (fun s => zhv s.1 s.2) default zqz 1 [] [.pubB 4] (by decide) (by kernel_rfl) (by rfl) (by decide) (by decide) (by rfl)
    (by rintro ⟨a0, a1⟩; kernel_rfl)
noncomputable def zc81 : Code := Tryz.f107.body.getD .skip
def zv81 : List (List Nat) := [[1, 2, 3, 6], [1, 3, 6, 8, 9], [1, 3, 6, 8, 9, 15], [6, 7], [1, 3, 6, 8, 9, 20], [6, 7], [1, 3, 6, 8, 9, 36], [6, 7], [1, 3, 6, 8, 41], [6, 7], [3, 6], [6, 7]]
noncomputable def zy81 : EnvT := ⟨Tryz.prog, zt [(37, zrg), (25, zcw), (134, zfa)]⟩
theorem zh81 : (zy81).Ok := zd ⟨zu7, zdl, zir, trivial⟩
def za81 : Ann := ⟨[], [], [], zv81, []⟩
def zkr (a0 : za) (a1 : Int) (a2 : ByteArray) : Tr (za × Int) :=
  (.bind (zff a2) fun v1 =>
  (.bind (zbq a0) fun v2 =>
  (.ite (!v2)
    (.leaf (a0, 2))
    (.guard ((((decide (a1 < 0)) || (decide (a1 ≥ 2))) = false → ((0 : Int) ≤ a1 ∧ (a1 : Int) < 2) ∧ True))
    (.ite (((decide (a1 < 0)) || (decide (a1 ≥ 2))) || (!(a0.Links.On.get a1)))
      (.leaf (a0, 4))
      (.ite (v1.2 != 0)
        (.leaf (a0, v1.2))
        (.ite (v1.1.Kind == 1)
          (.leaf (a0, 3))
          (.guard ((zap a0.Queue).isSome = true)
          (.guard ((Sl.len (.asked ((zap a0.Queue).getD default)) + Sl.len (.asked [(⟨a1, v1.1⟩ : Asked)])) * 88 ≤ 140737488355328)
          (.leaf ({ (a0 : za) with Queue := ((zap a0.Queue).getD default) ++ [(⟨a1, v1.1⟩ : Asked)] }, 0)))))))))))
def zbd (a0 : za) (a1 : Int) (a2 : ByteArray) : Option (za × Int) := (zkr a0 a1 a2).run
def zr81 : LQ (za × Int × ByteArray) := (LQ.seq (Par.q (Par.ofLP providerL)) (LQ.seq (Par.q intP) (Par.q strP)))
def zua : LQ (za × Int) := (LQ.seq (Par.q (Par.ofLP providerL)) (Par.q intP))
def zvk : SpecT := zu 0 zr81 3 [] (fun s => zkr s.1 s.2.1 s.2.2) default zua 2 []
theorem z23 : zh Tryz.prog 107 (zvk).spec :=
  ze (A := za81) zh81 Facts.mix Tryz.func107 (c := zc81) (by kernel_rfl) (Lc := 0) trivial zr81 3 8 [] (fun s => zkr s.1 s.2.1 s.2.2) default zua 2 [] [.pubB 6] (by decide) (by kernel_rfl) (by rfl) (by decide) (by decide) (by rfl)
    (by rintro ⟨a0, a1, a2⟩; kernel_rfl)
noncomputable def zc82 : Code := Tryz.f63.body.getD .skip
def zv82 : List (List Nat) := [[1, 2, 3, 6], [1, 2, 3, 6, 11], [6, 7], [1, 2, 3, 6, 16], [6, 7], [1, 2, 3, 6, 24], [6, 7], [1, 2, 3, 6, 34], [6, 7], [1, 3, 6, 8, 10], [1, 3, 6, 8, 10, 52], [6, 7], [3, 6, 8, 10], [3, 6, 8, 10, 62], [6, 7], [3, 6], [6, 7]]
noncomputable def zy82 : EnvT := ⟨Tryz.prog, zt [(25, zcw), (79, ztg), (80, zva)]⟩
theorem zh82 : (zy82).Ok := zd ⟨zdl, zxz, z0n, trivial⟩
def za82 : Ann := ⟨[], [], [], zv82, []⟩
def zf8 (a0 : za) (a1 : Int) (a2 : Int) : Tr (za × Int) :=
  (.bind (zbq a0) fun v1 =>
  (.ite (!v1)
    (.leaf (a0, 2))
    (.ite ((decide (a1 < 0)) || (decide (a1 ≥ 6)))
      (.leaf (a0, 4))
      (.ite ((decide (a2 < 1)) || (decide (a2 > a0.Height)))
        (.leaf (a0, 2))
        (.guard ((0 : Int) ≤ a1 ∧ (a1 : Int) < 6)
        (.ite (a0.Stake.Validators.Dead.get a1)
          (.leaf (a0, 15))
          (.bind (zgn a0.Stake a1 a2 50) fun v2 =>
          (.ite (v2.2.2 != 0)
            (.leaf (a0, v2.2.2))
            (.bind (zkg v2.1 a1) fun v3 =>
            (.ite (v3.2 != 0)
              (.leaf (a0, v3.2))
              (.leaf ({ (a0 : za) with Stake := v3.1 }, 0))))))))))))
def zif (a0 : za) (a1 : Int) (a2 : Int) : Option (za × Int) := (zf8 a0 a1 a2).run
def zr82 : LQ (za × Int × Int) := (LQ.seq (Par.q (Par.ofLP providerL)) (LQ.seq (Par.q intP) (Par.q intP)))
def znu : LQ (za × Int) := (LQ.seq (Par.q (Par.ofLP providerL)) (Par.q intP))
def zpn : SpecT := zu 0 zr82 3 [] (fun s => zf8 s.1 s.2.1 s.2.2) default znu 2 []
theorem zw9 : zh Tryz.prog 63 (zpn).spec :=
  ze (A := za82) zh82 Facts.mix Tryz.func63 (c := zc82) (by kernel_rfl) (Lc := 0) trivial zr82 3 5 [] (fun s => zf8 s.1 s.2.1 s.2.2) default znu 2 [] [.pubB 6] (by decide) (by kernel_rfl) (by rfl) (by decide) (by decide) (by rfl)
    (by rintro ⟨a0, a1, a2⟩; kernel_rfl)
noncomputable def zc83 : Code := Tryz.f101.body.getD .skip
def zv83 : List (List Nat) := [[0, 2, 6], [0, 2, 6, 7], [0, 2, 6, 7, 49], [0, 2, 6, 8, 9], [0, 2, 6, 8, 65], [0, 6, 9, 10], [0, 6, 10, 78], []]
noncomputable def zy83 : EnvT := ⟨Tryz.prog, zt [(132, z2k), (28, zl9), (133, z1j), (102, zd9)]⟩
theorem zh83 : (zy83).Ok := zd ⟨z86, zpc, z4m, zg4, trivial⟩
def za83 : Ann := ⟨[], [], [], zv83, []⟩
def zks (a0 : Int) (a1 : Int) (a2 : za) : Tr (za) :=
  (.guard ((0 : Int) ≤ a0 ∧ (a0 : Int) < 2)
  (.guard ((zem (a2.Links.Told.get a0) a2.Set).isSome = true)
  (.ite ((!(a2.Links.On.get a0)) || (((((((zem (a2.Links.Told.get a0) a2.Set).getD default).length : Nat) : Int) == 0) && (!(a2.Links.Fresh.get a0))) && ((((a2.Links.Done.get a0).length : Nat) : Int) == 0)))
    (.leaf a2)
    (.guard ((zbl (⟨1, a2.Height, 0, 0, ((zem (a2.Links.Told.get a0) a2.Set).getD default), a2.Links.Done.get a0⟩ : Packet)).isSome = true)
    (.ite ((((zbl (⟨1, a2.Height, 0, 0, ((zem (a2.Links.Told.get a0) a2.Set).getD default), a2.Links.Done.get a0⟩ : Packet)).getD default).2) != 0)
      (.leaf a2)
      (.bind (ztb (⟨a2.Links.Said.get a0, a2.Links.Due.get a0, a2.Links.Got.get a0, a2.Links.Closed.get a0⟩ : ze0) (((zbl (⟨1, a2.Height, 0, 0, ((zem (a2.Links.Told.get a0) a2.Set).getD default), a2.Links.Done.get a0⟩ : Packet)).getD default).1) (IntKind.i64.wrap (a1 + 40))) fun v1 =>
      (.ite (v1.2 != 0)
        (.leaf a2)
        (.guard ((zaj a2.Set).isSome = true)
        (.leaf ({ (a2 : za) with Links := { (a2.Links : Links) with Told := (a2.Links.Told.set a0 ((zaj a2.Set).getD default)), Fresh := (a2.Links.Fresh.set a0 false), Done := (a2.Links.Done.set a0 []), Said := (a2.Links.Said.set a0 v1.1.Said), Due := (a2.Links.Due.set a0 v1.1.Due), Got := (a2.Links.Got.set a0 v1.1.Got), Closed := (a2.Links.Closed.set a0 v1.1.Closed) } }))))))))))
def zjb (a0 : Int) (a1 : Int) (a2 : za) : Option (za) := (zks a0 a1 a2).run
def zr83 : LQ (Int × Int × za) := (LQ.skip (LQ.const (.ptr 0 0)) (LQ.seq (Par.q intP) (LQ.seq (Par.q intP) (LP.q providerL))))
def zub : LQ (za) := (LP.q providerL)
def zvl : SpecT := zu 1 zr83 3 [.cells 61 97] (fun s => zks s.1 s.2.1 s.2.2) default zub 0 [.cells 61 97]
theorem z24 : zh Tryz.prog 101 (zvl).spec :=
  ze (A := za83) zh83 Facts.mix Tryz.func101 (c := zc83) (by kernel_rfl) (Lc := 1) trivial zr83 3 4 [.cells 61 97] (fun s => zks s.1 s.2.1 s.2.2) default zub 0 [.cells 61 97] [.pubN 0] (by decide) (by kernel_rfl) (by rfl) (by decide) (by decide) (by rfl)
    (by rintro ⟨a0, a1, a2⟩; kernel_rfl)
noncomputable def zc84 : Code := Tryz.f152.body.getD .skip
def zv84 : List (List Nat) := [[0], [2]]
noncomputable def zy84 : EnvT := ⟨Tryz.prog, zt []⟩
theorem zh84 : (zy84).Ok := zd trivial
def za84 : Ann := ⟨[], [], [], zv84, []⟩
def zkt (a0 : Int) : Tr (Bool) :=
  (.leaf (a0 != a0))
def zgi (a0 : Int) : Option (Bool) := (zkt a0).run
def zr84 : LQ (Int) := (Par.q intP)
def zuc : LQ (Bool) := (Par.q boolP)
def zvm : SpecT := zu 0 zr84 1 [] (fun s => zkt s) default zuc 1 []
theorem z25 : zh Tryz.prog 152 (zvm).spec :=
  ze (A := za84) zh84 Facts.mix Tryz.func152 (c := zc84) (by kernel_rfl) (Lc := 0) trivial zr84 1 2 [] (fun s => zkt s) default zuc 1 [] [] (by decide) (by kernel_rfl) (by rfl) (by decide) (by decide) (by rfl)
    (by rintro a0; kernel_rfl)
noncomputable def zc85 : Code := Tryz.f140.body.getD .skip
def zv85 : List (List Nat) := [[0, 1], [4]]
noncomputable def zy85 : EnvT := ⟨Tryz.prog, zt [(152, zvm)]⟩
theorem zh85 : (zy85).Ok := zd ⟨z25, trivial⟩
def za85 : Ann := ⟨[], [], [], zv85, []⟩
def zmh (a0 : Int) (a1 : Int) : Tr (Bool) :=
  (.bind (zgi a0) fun v1 =>
  (.guard ((v1 = true → ((zgi a1).isSome = true) ∧ True))
  (.leaf ((v1 && (!((zgi a1).getD default))) || (decide (a0 < a1))))))
def zpo (a0 : Int) (a1 : Int) : Option (Bool) := (zmh a0 a1).run
def zr85 : LQ (Int × Int) := (LQ.seq (Par.q intP) (Par.q intP))
def zvn : LQ (Bool) := (Par.q boolP)
def zx4 : SpecT := zu 0 zr85 2 [] (fun s => zmh s.1 s.2) default zvn 1 []
theorem z4w : zh Tryz.prog 140 (zx4).spec :=
  ze (A := za85) zh85 Facts.mix Tryz.func140 (c := zc85) (by kernel_rfl) (Lc := 0) trivial zr85 2 2 [] (fun s => zmh s.1 s.2) default zvn 1 [] [] (by decide) (by kernel_rfl) (by rfl) (by decide) (by decide) (by rfl)
    (by rintro ⟨a0, a1⟩; kernel_rfl)
noncomputable def zc86 : Code := Tryz.f141.body.getD .skip
def zv86 : List (List Nat) := [[0], [2]]
noncomputable def zy86 : EnvT := ⟨Tryz.prog, zt []⟩
theorem zh86 : (zy86).Ok := zd trivial
def za86 : Ann := ⟨[], [], [], zv86, []⟩
def zgy (a0 : Int) : Tr (Bool) :=
  (.leaf (a0 != a0))
def zbu (a0 : Int) : Option (Bool) := (zgy a0).run
def zr86 : LQ (Int) := (Par.q intP)
def zpp : LQ (Bool) := (Par.q boolP)
def zq0 : SpecT := zu 0 zr86 1 [] (fun s => zgy s) default zpp 1 []
theorem zyy : zh Tryz.prog 141 (zq0).spec :=
  ze (A := za86) zh86 Facts.mix Tryz.func141 (c := zc86) (by kernel_rfl) (Lc := 0) trivial zr86 1 2 [] (fun s => zgy s) default zpp 1 [] [] (by decide) (by kernel_rfl) (by rfl) (by decide) (by decide) (by rfl)
    (by rintro a0; kernel_rfl)
noncomputable def zc87 : Code := Tryz.f124.body.getD .skip
def zv87 : List (List Nat) := [[0, 1], [0, 1, 6], [0, 1, 6, 7, 8], [0, 1, 6, 7, 8, 15], [0, 1, 6, 7, 8, 9], [0, 1, 6, 7, 8, 9, 27], [0, 1, 6, 7, 8], [0, 1, 6, 7, 8], [4, 5]]
noncomputable def zy87 : EnvT := ⟨Tryz.prog, zt [(140, zx4), (141, zq0)]⟩
theorem zh87 : (zy87).Ok := zd ⟨z4w, zyy, trivial⟩
def zbw (x0 : (List Int)) (x1 : Int) (x2 : Int) (x3 : Int) (x4 : Int) : Tr (((List Int) × Int × Int × Int × Int) ⊕ ((List Int) × Int × Int × Int)) :=
  (.ite (decide (x3 < x4))
    (.guard ((0 : Int) ≤ 1)
    (.guard ((0 : Int) ≤ (IntKind.i64.wrap (Int.fdiv (IntKind.u64.wrap (IntKind.i64.wrap (x3 + x4))) (2 ^ 1))) ∧ (IntKind.i64.wrap (Int.fdiv (IntKind.u64.wrap (IntKind.i64.wrap (x3 + x4))) (2 ^ 1))) < ((Sl.len (.ints x0) : Nat) : Int))
    (.bind (zpo (x0.getD ((IntKind.i64.wrap (Int.fdiv (IntKind.u64.wrap (IntKind.i64.wrap (x3 + x4))) (2 ^ 1))).toNat) 0) x1) fun v1 =>
    (.ite (v1)
      (.leaf (.inl (x0, x1, x2, IntKind.i64.wrap ((IntKind.i64.wrap (Int.fdiv (IntKind.u64.wrap (IntKind.i64.wrap (x3 + x4))) (2 ^ 1))) + 1), x4)))
      (.leaf (.inl (x0, x1, x2, x3, IntKind.i64.wrap (Int.fdiv (IntKind.u64.wrap (IntKind.i64.wrap (x3 + x4))) (2 ^ 1)))))))))
    (.leaf (.inr (x0, x1, x2, x3))))
def zgj (x0 : (List Int)) (x1 : Int) (x2 : Int) (x3 : Int) (x4 : Int) : Option ((List Int) × Int × Int × Int) := ze1 (fun s : (List Int) × Int × Int × Int × Int => (zbw s.1 s.2.1 s.2.2.1 s.2.2.2.1 s.2.2.2.2).run) (x0, x1, x2, x3, x4)
def za2h : Ann := ⟨[], [], [], zv87, []⟩
def za2i : EndD ((List Int) × Int × Int × Int × Int) := ⟨(LQ.seq (Par.q zg1) (LQ.seq (Par.q intP) (LQ.seq (Par.q intP) (LQ.seq (Par.q intP) (Par.q intP))))), ⟨[0, 1, 6, 7, 8], [.pub 0, .nilsl 0 (.ints [])]⟩, []⟩
def zaq1 : EndD ((List Int) × Int × Int × Int) := ⟨(LQ.seq (Par.q zg1) (LQ.seq (Par.q intP) (LQ.seq (Par.q intP) (Par.q intP)))), ⟨[0, 1, 6, 7], [.pub 0, .nilsl 0 (.ints [])]⟩, []⟩
def zaul : St → Option LR := L1 54 2 0 za2i (.exit 0) zaq1 (fun s => zbw s.1 s.2.1 s.2.2.1 s.2.2.2.1 s.2.2.2.2)
theorem za2j : zv (zy87).env 0 (sub zc87 [0, 0, 1, 1, 1]) zaul :=
  zii (A := za2h) zh87 Facts.mix trivial (k := zdk (sub zc87 [0, 0, 1, 1, 1])) (by kernel_rfl) rfl (by rintro ⟨x0, x1, x2, x3, x4⟩; kernel_rfl)
def za87 : Ann := ⟨[([0, 0, 1, 1, 1], zaul)], [], [], zv87, []⟩
def zcr (a0 : (List Int)) (a1 : Int) : Tr (Int × Bool) :=
  (.bind (zgj a0 a1 ((a0.length : Nat) : Int) 0 ((a0.length : Nat) : Int)) fun v2 =>
  (.guard (((decide (v2.2.2.2 < v2.2.2.1)) = true → ((0 : Int) ≤ v2.2.2.2 ∧ v2.2.2.2 < ((Sl.len (.ints v2.1) : Nat) : Int)) ∧ True))
  (.guard ((((v2.1.getD v2.2.2.2.toNat 0) == v2.2.1) = false → ((decide (v2.2.2.2 < v2.2.2.1)) = true → ((0 : Int) ≤ v2.2.2.2 ∧ v2.2.2.2 < ((Sl.len (.ints v2.1) : Nat) : Int)) ∧ True)))
  (.guard ((((v2.1.getD v2.2.2.2.toNat 0) == v2.2.1) = false → ((decide (v2.2.2.2 < v2.2.2.1)) = true → ((zbu (v2.1.getD v2.2.2.2.toNat 0)).isSome = true) ∧ True)))
  (.guard ((((zbu (v2.1.getD v2.2.2.2.toNat 0)).getD default) = true → (((v2.1.getD v2.2.2.2.toNat 0) == v2.2.1) = false → ((decide (v2.2.2.2 < v2.2.2.1)) = true → ((zbu v2.2.1).isSome = true) ∧ True))))
  (.leaf (v2.2.2.2, (decide (v2.2.2.2 < v2.2.2.1)) && (((v2.1.getD v2.2.2.2.toNat 0) == v2.2.1) || (((zbu (v2.1.getD v2.2.2.2.toNat 0)).getD default) && ((zbu v2.2.1).getD default))))))))))
def zq (a0 : (List Int)) (a1 : Int) : Option (Int × Bool) := (zcr a0 a1).run
def zr87 : LQ ((List Int) × Int) := (LQ.seq (Par.q zg1) (Par.q intP))
def zib : LQ (Int × Bool) := (LQ.seq (Par.q intP) (Par.q boolP))
def ziy : SpecT := zu 0 zr87 2 [] (fun s => zcr s.1 s.2) default zib 2 []
theorem zp1 : zh Tryz.prog 124 (ziy).spec :=
  ze (A := za87) zh87 Facts.mix Tryz.func124 (c := zc87) (by kernel_rfl) (Lc := 0) ⟨za2j, trivial⟩ zr87 2 2 [] (fun s => zcr s.1 s.2) default zib 2 [] [] (by decide) (by kernel_rfl) (by rfl) (by decide) (by decide) (by rfl)
    (by rintro ⟨a0, a1⟩; kernel_rfl)
noncomputable def zc88 : Code := Tryz.f98.body.getD .skip
def zv88 : List (List Nat) := [[0, 3], [0, 3, 5], [0, 3, 5, 6], [0, 3, 5, 6, 28], [0, 3, 5, 6, 28, 29], [], [0, 3, 5, 6, 28, 44], [0, 3, 5, 6, 48], [0, 3, 6, 7, 8], [0, 3, 6, 7, 62], [4], [0, 3, 6], [3, 6], [3, 6, 9, 10], [3, 6, 9, 93], [], [0, 3, 5, 6, 108], [0, 3, 6, 112], [0, 3], [], [4]]
noncomputable def zy88 : EnvT := ⟨Tryz.prog, zt [(121, zpe), (122, z2e), (123, z2j), (124, ziy), (126, zj7), (125, F_slices_Insert_int), (79, ztg), (80, zva)]⟩
theorem zh88 : (zy88).Ok := zd ⟨zt2, z84, z85, zp1, zo9, zw4, zxz, z0n, trivial⟩
def za88 : Ann := ⟨[], [], [], zv88, []⟩
def zku (a0 : Asked) (a1 : za) : Tr (Bool × za) :=
  (.guard ((0 : Int) ≤ a0.P.V ∧ (a0.P.V : Int) < 6)
  (.guard ((0 : Int) ≤ a0.C ∧ (a0.C : Int) < 2)
  (.ite (a0.P.Kind == 2)
    (.guard ((zgc a1.Stake a0.C a0.P.Id).isSome = true)
    (.leaf (true, { (a1 : za) with Stake := ((zgc a1.Stake a0.C a0.P.Id).getD default) })))
    (.ite (a0.P.Kind == 3)
      (.ite (!(a1.Stake.Validators.Jailed.get a0.P.V))
        (.guard ((100 : Int) ≠ 0)
        (.guard ((zhl a1.Meter (if (IntKind.i64.wrap (Int.tdiv (a1.Stake.Validators.Tokens.get a0.P.V) 100)) > 1 then (IntKind.i64.wrap (Int.tdiv (a1.Stake.Validators.Tokens.get a0.P.V) 100)) else 1)).isSome = true)
        (.ite (!(((zhl a1.Meter (if (IntKind.i64.wrap (Int.tdiv (a1.Stake.Validators.Tokens.get a0.P.V) 100)) > 1 then (IntKind.i64.wrap (Int.tdiv (a1.Stake.Validators.Tokens.get a0.P.V) 100)) else 1)).getD default).2))
          (.leaf (false, a1))
          (.guard ((zkf a1.Stake a0.P.V).isSome = true)
          (.guard ((zq (a1.Links.Done.get a0.C) a0.P.V).isSome = true)
          (.ite (!(((zq (a1.Links.Done.get a0.C) a0.P.V).getD default).2))
            (.guard ((z8 (a1.Links.Done.get a0.C)).isSome = true)
            (.guard ((zb9 ((z8 (a1.Links.Done.get a0.C)).getD default) (((zq (a1.Links.Done.get a0.C) a0.P.V).getD default).1) [a0.P.V]).isSome = true)
            (.leaf (true, { (a1 : za) with Stake := (((zkf a1.Stake a0.P.V).getD default).1), Links := { (a1.Links : Links) with Done := (a1.Links.Done.set a0.C ((zb9 ((z8 (a1.Links.Done.get a0.C)).getD default) (((zq (a1.Links.Done.get a0.C) a0.P.V).getD default).1) [a0.P.V]).getD default)) }, Meter := (((zhl a1.Meter (if (IntKind.i64.wrap (Int.tdiv (a1.Stake.Validators.Tokens.get a0.P.V) 100)) > 1 then (IntKind.i64.wrap (Int.tdiv (a1.Stake.Validators.Tokens.get a0.P.V) 100)) else 1)).getD default).1) }))))
            (.leaf (true, { (a1 : za) with Stake := (((zkf a1.Stake a0.P.V).getD default).1), Meter := (((zhl a1.Meter (if (IntKind.i64.wrap (Int.tdiv (a1.Stake.Validators.Tokens.get a0.P.V) 100)) > 1 then (IntKind.i64.wrap (Int.tdiv (a1.Stake.Validators.Tokens.get a0.P.V) 100)) else 1)).getD default).1) }))))))))
        (.guard ((zq (a1.Links.Done.get a0.C) a0.P.V).isSome = true)
        (.ite (!(((zq (a1.Links.Done.get a0.C) a0.P.V).getD default).2))
          (.guard ((z8 (a1.Links.Done.get a0.C)).isSome = true)
          (.guard ((zb9 ((z8 (a1.Links.Done.get a0.C)).getD default) (((zq (a1.Links.Done.get a0.C) a0.P.V).getD default).1) [a0.P.V]).isSome = true)
          (.leaf (true, { (a1 : za) with Links := { (a1.Links : Links) with Done := (a1.Links.Done.set a0.C ((zb9 ((z8 (a1.Links.Done.get a0.C)).getD default) (((zq (a1.Links.Done.get a0.C) a0.P.V).getD default).1) [a0.P.V]).getD default)) } }))))
          (.leaf (true, a1)))))
      (.ite (a0.P.Kind == 4)
        (.ite (!(a1.Stake.Validators.Dead.get a0.P.V))
          (.guard ((zgn a1.Stake a0.P.V (if (a1.Links.Base.get a0.C) > a0.P.Id then (a1.Links.Base.get a0.C) else a0.P.Id) 50).isSome = true)
          (.guard ((zkg (((zgn a1.Stake a0.P.V (if (a1.Links.Base.get a0.C) > a0.P.Id then (a1.Links.Base.get a0.C) else a0.P.Id) 50).getD default).1) a0.P.V).isSome = true)
          (.leaf (true, { (a1 : za) with Stake := (((zkg (((zgn a1.Stake a0.P.V (if (a1.Links.Base.get a0.C) > a0.P.Id then (a1.Links.Base.get a0.C) else a0.P.Id) 50).getD default).1) a0.P.V).getD default).1) }))))
          (.leaf (true, a1)))
        (.leaf (true, a1)))))))
def znj (a0 : Asked) (a1 : za) : Option (Bool × za) := (zku a0 a1).run
def zr88 : LQ (Asked × za) := (LQ.skip (LQ.const (.ptr 0 0)) (LQ.seq (Par.q (Par.ofLP zah2)) (LP.q providerL)))
def zud : LQ (Bool × za) := (LQ.seq (Par.q boolP) (LP.q providerL))
def zvo : SpecT := zu 1 zr88 2 [.cells 61 97] (fun s => zku s.1 s.2) default zud 1 [.cells 61 97]
theorem z27 : zh Tryz.prog 98 (zvo).spec :=
  ze (A := za88) zh88 Facts.mix Tryz.func98 (c := zc88) (by kernel_rfl) (Lc := 1) trivial zr88 2 9 [.cells 61 97] (fun s => zku s.1 s.2) default zud 1 [.cells 61 97] [.pubN 0] (by decide) (by kernel_rfl) (by rfl) (by decide) (by decide) (by rfl)
    (by rintro ⟨a0, a1⟩; kernel_rfl)
noncomputable def zc89 : Code := Tryz.f81.body.getD .skip
def zv89 : List (List Nat) := [[1, 2, 4], [1, 2, 4, 27], [4, 5, 6], [1, 2, 4], [1, 2, 4], [1, 2, 4, 7], [1, 2, 4, 7, 8], [1, 2, 4, 7, 8, 44, 45, 46], [1, 2, 4, 7, 8, 44, 45, 46, 47], [1, 2, 4, 7, 8, 10, 44, 45, 46], [1, 2, 4, 7, 8, 10, 44, 45, 46, 58], [1, 2, 4, 7, 8, 10, 44, 45, 46], [1, 2, 4, 7, 8, 44, 45, 46], [1, 2, 4, 7, 8, 44, 45, 46], [1, 2, 4], [1, 2, 4, 11, 12, 13], [1, 2, 4, 11, 12, 13, 78], [4, 5, 6], [1, 2, 4, 12], [1, 2, 4, 12], [1, 2, 4, 12, 87], [1, 2, 4, 12, 87, 88], [1, 2, 4, 12, 14, 87], [1, 2, 4, 12, 87], [1, 2, 4, 12, 87], [4, 5, 6]]
noncomputable def zy89 : EnvT := ⟨Tryz.prog, zt [(25, zcw), (34, zyx), (97, z2d), (98, zvo), (99, z4r), (100, z4t), (101, zvl)]⟩
theorem zh89 : (zy89).Ok := zd ⟨zdl, z2m, z83, z27, zaaz, zaa0, z24, trivial⟩
def zfn (x0 : Int) (x1 : (List Asked)) (x2 : Int) (x3 : Int) (x4 : za) (x5 : za) (x6 : (A2 Bool)) (x7 : (List Asked)) : Tr ((Int × (List Asked) × Int × Int × za × za × (A2 Bool) × (List Asked)) ⊕ (Int × za × za × (List Asked))) :=
  (.ite (decide (x3 < x2))
    (.guard ((0 : Int) ≤ x3 ∧ x3 < ((Sl.len (.asked x1) : Nat) : Int))
    (.guard ((0 : Int) ≤ ((x1.getD x3.toNat default).C) ∧ (((x1.getD x3.toNat default).C) : Int) < 2)
    (.ite (x6.get ((x1.getD x3.toNat default).C))
      (.ite ((true : Bool))
        (.ite ((true : Bool))
          (.ite ((true : Bool))
            (.guard ((0 : Int) ≤ ((x1.getD x3.toNat default).C) ∧ (((x1.getD x3.toNat default).C) : Int) < 2)
            (.guard ((Sl.len (.asked x7) + Sl.len (.asked [(x1.getD x3.toNat default)])) * 88 ≤ 140737488355328)
            (.leaf (.inl (x0, x1, x2, IntKind.i64.wrap (x3 + 1), x4, x5, (x6.set ((x1.getD x3.toNat default).C) true), x7 ++ [(x1.getD x3.toNat default)])))))
            (.leaf (.inl (x0, x1, x2, IntKind.i64.wrap (x3 + 1), x4, x5, x6, x7))))
          .fail)
        .fail)
      (.bind (znj (x1.getD x3.toNat default) x4) fun v2 =>
      (.ite ((false : Bool) || (!v2.1))
        (.guard ((0 : Int) ≤ ((x1.getD x3.toNat default).C) ∧ (((x1.getD x3.toNat default).C) : Int) < 2)
        (.guard ((Sl.len (.asked x7) + Sl.len (.asked [(x1.getD x3.toNat default)])) * 88 ≤ 140737488355328)
        (.leaf (.inl (x0, x1, x2, IntKind.i64.wrap (x3 + 1), v2.2, x5, (x6.set ((x1.getD x3.toNat default).C) true), x7 ++ [(x1.getD x3.toNat default)])))))
        (.leaf (.inl (x0, x1, x2, IntKind.i64.wrap (x3 + 1), v2.2, x5, x6, x7))))))))
    (.leaf (.inr (x0, x4, x5, x7))))
def zgz (x0 : Int) (x1 : (List Asked)) (x2 : Int) (x3 : Int) (x4 : za) (x5 : za) (x6 : (A2 Bool)) (x7 : (List Asked)) : Option (Int × za × za × (List Asked)) := ze1 (fun s : Int × (List Asked) × Int × Int × za × za × (A2 Bool) × (List Asked) => (zfn s.1 s.2.1 s.2.2.1 s.2.2.2.1 s.2.2.2.2.1 s.2.2.2.2.2.1 s.2.2.2.2.2.2.1 s.2.2.2.2.2.2.2).run) (x0, x1, x2, x3, x4, x5, x6, x7)
def za2n : Ann := ⟨[], [], [], zv89, [(23, [9700002])]⟩
def za2o : EndD (Int × (List Asked) × Int × Int × za × za × (A2 Bool) × (List Asked)) := ⟨(LQ.seq (Par.q intP) (LQ.skip (LQ.const (.ptr 0 0)) (LQ.skip (LQ.const (.ptr 1 0)) (LQ.skip (LQ.const (.own 3)) (LQ.skip (LQ.const (.ptr 2 0)) (LQ.seq (Par.q ze8) (LQ.seq (Par.q intP) (LQ.seq (Par.q intP) (LQ.seq (LP.q providerL) (LQ.seq (LP.q providerL) (LQ.seq (LP.q (a2L (LP.one boolP))) (Par.q ze8)))))))))))), ⟨[1, 2, 4, 7, 8, 44, 45, 46], [.nilown 7 101 (.asked []), .pub 44, .nilsl 44 (.asked [])]⟩, [.cells 61 97, .cells 61 97, .cells 170 2, .rows 101]⟩
def zaq2 : EndD (Int × za × za × (List Asked)) := ⟨(LQ.seq (Par.q intP) (LQ.skip (LQ.const (.ptr 0 0)) (LQ.skip (LQ.const (.ptr 1 0)) (LQ.skip (LQ.const (.own 2)) (LQ.seq (LP.q providerL) (LQ.seq (LP.q providerL) (Par.q ze8))))))), ⟨[1, 2, 4, 7], [.nilown 7 101 (.asked [])]⟩, [.cells 61 97, .cells 61 97, .rows 101]⟩
def zaun : St → Option LR := L1 96 9 0 za2o (.exit 0) zaq2 (fun s => zfn s.1 s.2.1 s.2.2.1 s.2.2.2.1 s.2.2.2.2.1 s.2.2.2.2.2.1 s.2.2.2.2.2.2.1 s.2.2.2.2.2.2.2)
theorem za2p : zv (zy89).env 0 (sub zc89 [0, 1, 0, 1, 1, 1, 1, 1, 1]) zaun :=
  zii (A := za2n) zh89 Facts.mix trivial (k := zdk (sub zc89 [0, 1, 0, 1, 1, 1, 1, 1, 1])) (by kernel_rfl) rfl (by rintro ⟨x0, x1, x2, x3, x4, x5, x6, x7⟩; kernel_rfl)
def zfo (x0 : Int) (x1 : (List Int)) (x2 : Int) (x3 : za) (x4 : za) : Tr ((Int × (List Int) × Int × za × za) ⊕ ((List Int) × za × za)) :=
  (.ite (decide (x2 < 2))
    (.bind (zjb x2 x0 x3) fun v6 =>
    (.leaf (.inl (x0, x1, IntKind.i64.wrap (x2 + 1), v6, x4))))
    (.leaf (.inr (x1, x3, x4))))
def zkv (x0 : Int) (x1 : (List Int)) (x2 : Int) (x3 : za) (x4 : za) : Option ((List Int) × za × za) := ze1 (fun s : Int × (List Int) × Int × za × za => (zfo s.1 s.2.1 s.2.2.1 s.2.2.2.1 s.2.2.2.2).run) (x0, x1, x2, x3, x4)
def za2q : Ann := ⟨[], [], [], zv89, [(23, [9700002])]⟩
def za2r : EndD (Int × (List Int) × Int × za × za) := ⟨(LQ.seq (Par.q intP) (LQ.skip (LQ.const (.ptr 0 0)) (LQ.skip (LQ.const (.ptr 1 0)) (LQ.seq (Par.q zg1) (LQ.seq (Par.q intP) (LQ.seq (LP.q providerL) (LP.q providerL))))))), ⟨[1, 2, 4, 12, 87], [.pubC 2 96, .pub 12, .nilsl 12 (.ints [])]⟩, [.cells 61 97, .cells 61 97]⟩
def zaq3 : EndD ((List Int) × za × za) := ⟨(LQ.skip (LQ.const (.ptr 0 0)) (LQ.skip (LQ.const (.ptr 1 0)) (LQ.seq (Par.q zg1) (LQ.seq (LP.q providerL) (LP.q providerL))))), ⟨[2, 4, 12], [.pubC 2 96, .pub 12, .nilsl 12 (.ints [])]⟩, [.cells 61 97, .cells 61 97]⟩
def zauo : St → Option LR := L1 96 9 0 za2r (.exit 2) zaq3 (fun s => zfo s.1 s.2.1 s.2.2.1 s.2.2.2.1 s.2.2.2.2)
theorem za2s : zv (zy89).env 0 (sub zc89 [0, 1, 0, 1, 1, 1, 1, 1, 1, 1, 1, 1, 1, 1, 1]) zauo :=
  zii (A := za2q) zh89 Facts.mix trivial (k := zdk (sub zc89 [0, 1, 0, 1, 1, 1, 1, 1, 1, 1, 1, 1, 1, 1, 1])) (by kernel_rfl) rfl (by rintro ⟨x0, x1, x2, x3, x4⟩; kernel_rfl)
def za89 : Ann := ⟨[([0, 1, 0, 1, 1, 1, 1, 1, 1], zaun), ([0, 1, 0, 1, 1, 1, 1, 1, 1, 1, 1, 1, 1, 1, 1], zauo)], [], [], zv89, [(23, [9700002])]⟩
def zmi (a0 : za) (a1 : Int) : Tr (za × (List Int) × Int) :=
  (.bind (zbq a0) fun v1 =>
  (.ite (((!v1) || (decide (a1 < a0.Time))) || (decide (a1 > 1099511627776)))
    (.leaf (a0, [], 2))
    (.guard ((zg8 a0.Set).isSome = true)
    (.guard ((zol a0.Meter ((zg8 a0.Set).getD default) a1).isSome = true)
    (.bind (zgz a1 a0.Queue ((a0.Queue.length : Nat) : Int) 0 ({ (a0 : za) with Height := IntKind.i64.wrap (a0.Height + 1), Time := a1, Meter := ((zol a0.Meter ((zg8 a0.Set).getD default) a1).getD default) }) (default : za) (⟨false, false⟩ : (A2 Bool)) []) fun v3 =>
    (.bind (zqo v3.2.1.Stake v3.1) fun v4 =>
    (.ite (v4.2.2 != 0)
      (.leaf ({ (v3.2.1 : za) with Queue := v3.2.2.2 }, [], v4.2.2))
      (.bind (zvc v4.1) fun v5 =>
      (.bind (zkv v3.1 v4.2.1 0 ({ (v3.2.1 : za) with Stake := v4.1, Set := v5, Queue := v3.2.2.2 }) v3.2.2.1) fun v7 =>
      (.leaf (v7.2.1, v7.1, 0)))))))))))
def zcy (a0 : za) (a1 : Int) : Option (za × (List Int) × Int) := (zmi a0 a1).run
def zr89 : LQ (za × Int) := (LQ.seq (Par.q (Par.ofLP providerL)) (Par.q intP))
def zvp : LQ (za × (List Int) × Int) := (LQ.seq (Par.q (Par.ofLP providerL)) (LQ.seq (Par.q zg1) (Par.q intP)))
def zx5 : SpecT := zu 0 zr89 2 [] (fun s => zmi s.1 s.2) default zvp 3 []
theorem z4x : zh Tryz.prog 81 (zx5).spec :=
  ze (A := za89) zh89 Facts.mix Tryz.func81 (c := zc89) (by kernel_rfl) (Lc := 0) ⟨za2p, za2s, trivial⟩ zr89 2 9 [] (fun s => zmi s.1 s.2) default zvp 3 [] [.pubB 4, .pub 5] (by decide) (by kernel_rfl) (by rfl) (by decide) (by decide) (by rfl)
    (by rintro ⟨a0, a1⟩; kernel_rfl)
end
end Go.Proofs.YtmakmlnfbdablaaGreat.Ab
