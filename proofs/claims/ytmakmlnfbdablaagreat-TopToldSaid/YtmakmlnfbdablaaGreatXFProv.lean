/-
  The functions, each by its tree.
-/
import Derived.Test.YtmakmlnfbdablaaGreatXAbClear
import Derived.Test.YtmakmlnfbdablaaGreatXAbFun
import Derived.Test.YtmakmlnfbdablaaGreatXAbInsert
import Derived.Test.YtmakmlnfbdablaaGreatXAbStructs
import Derived.Test.YtmakmlnfbdablaaGreatXFBank
import Derived.Test.YtmakmlnfbdablaaGreatXFCodec
import Derived.Test.YtmakmlnfbdablaaGreatXFLine
import Derived.Test.YtmakmlnfbdablaaGreatXFStakeA
import Derived.Test.YtmakmlnfbdablaaGreatXFStakeB
import Derived.Test.YtmakmlnfbdablaaGreatXFacts
namespace Go.Proofs.YtmakmlnfbdablaaGreat.Ab
open Go Go.RowKit
set_option maxRecDepth 100000
set_option linter.unusedVariables false
set_option linter.unusedSimpArgs false
noncomputable section
noncomputable def zc68 : Code := Tryz.f31.body.getD .skip
def zv68 : List (List Nat) := [[0], [0]]
noncomputable def zy68 : EnvT := ⟨Tryz.prog, zr [(66, z5s), (67, zzz)]⟩
theorem zh68 : (zy68).Ok := ze ⟨zacb, z24, trivial⟩
def za68 : Ann := ⟨[], [], [], zv68, []⟩
def zmz  : Tr (za) :=
  (.bind (zwj) fun v1 =>
  (.bind (zq6 0 0) fun v2 =>
  (.leaf (⟨0, 0, v1, [], (default : Links), v2, []⟩ : za))))
def zqa  : Option (za) := (zmz ).run
def zr68 : LQ (Unit) := LQ.nil
def zws : LQ (za) := (Par.q (Par.ofLP providerL))
def zzb : SpecT := zv 0 zr68 0 [] (fun s => zmz ) default zws 1 []
theorem z5y : zi Tryz.prog 31 (zzb).spec :=
  zf (A := za68) zh68 Facts.mix Tryz.func31 (c := zc68) (by kernel_rfl) (Lc := 0) trivial zr68 0 3 [] (fun s => zmz ) default zws 1 [] [.pubB 0] (by decide) (by kernel_rfl) (by rfl) (by decide) (by decide) (by rfl)
    (by rintro _; kernel_rfl)
noncomputable def zc69 : Code := Tryz.f56.body.getD .skip
def zv69 : List (List Nat) := [[0], [0, 5, 6, 7], [0, 5, 6, 7, 8], [0, 3, 4, 5, 6, 7], [0, 5, 6, 7, 44], [2], [0, 5, 6, 7], [2]]
noncomputable def zy69 : EnvT := ⟨Tryz.prog, zr []⟩
theorem zh69 : (zy69).Ok := ze trivial
def zih (x0 : (List Power)) (x1 : (List Power)) (x2 : Int) (x3 : Int) : Tr (((List Power) × (List Power) × Int × Int) ⊕ ((Bool) ⊕ (Unit))) :=
  (.ite (decide (x3 < x2))
    (.guard ((0 : Int) ≤ x3 ∧ x3 < ((Sl.len (.powers x1) : Nat) : Int))
    (.guard (((decide (x3 > 0)) = true → (((decide (((x1.getD x3.toNat default).V) < 0)) || (decide (((x1.getD x3.toNat default).V) ≥ 6))) = false → ((0 : Int) ≤ (IntKind.i64.wrap (x3 - 1)) ∧ (IntKind.i64.wrap (x3 - 1)) < ((Sl.len (.powers x0) : Nat) : Int)) ∧ True)))
    (.ite (((((decide (((x1.getD x3.toNat default).V) < 0)) || (decide (((x1.getD x3.toNat default).V) ≥ 6))) || ((decide (x3 > 0)) && (decide (((x0.getD ((IntKind.i64.wrap (x3 - 1)).toNat) default).V) ≥ ((x1.getD x3.toNat default).V))))) || (decide (((x1.getD x3.toNat default).N) < 1))) || (decide (((x1.getD x3.toNat default).N) > 1125899906842624)))
      (.leaf (.inr (.inl false)))
      (.leaf (.inl (x0, x1, x2, IntKind.i64.wrap (x3 + 1)))))))
    (.leaf (.inr (.inr ()))))
def zrn (x0 : (List Power)) (x1 : (List Power)) (x2 : Int) (x3 : Int) : Option ((Bool) ⊕ (Unit)) := zeh (fun s : (List Power) × (List Power) × Int × Int => (zih s.1 s.2.1 s.2.2.1 s.2.2.2).run) (x0, x1, x2, x3)
def za5b : Ann := ⟨[], [], [], zv69, []⟩
def za5c : EndD ((List Power) × (List Power) × Int × Int) := ⟨(LQ.seq (Par.q zm) (LQ.seq (Par.q zm) (LQ.seq (Par.q intP) (Par.q intP)))), ⟨[0, 5, 6, 7], [.pub 0, .nilsl 0 (.powers []), .pub 5, .nilsl 5 (.powers [])]⟩, []⟩
def zasw : EndD (Bool) := ⟨(Par.q boolP), ⟨[2], []⟩, []⟩
def zasx : EndD (Unit) := ⟨LQ.nil, ⟨[], []⟩, []⟩
def zaws : St → Option LR := L2 46 3 0 za5c .ret zasw (.exit 0) zasx (fun s => zih s.1 s.2.1 s.2.2.1 s.2.2.2)
theorem za5d : zq (zy69).env 0 (sub zc69 [0, 1, 0, 1]) zaws :=
  zn2 (A := za5b) zh69 Facts.mix trivial (k := zci (sub zc69 [0, 1, 0, 1])) (by kernel_rfl) rfl rfl (by rintro ⟨x0, x1, x2, x3⟩; kernel_rfl)
def za69 : Ann := ⟨[([0, 1, 0, 1], zaws)], [], [], zv69, []⟩
def zm0 (a0 : (List Power)) : Tr (Bool) :=
  (.two (zrn a0 a0 ((a0.length : Nat) : Int) 0) (fun v1 =>
    (.leaf v1)) (fun v2 =>
    (.leaf true)))
def zd6 (a0 : (List Power)) : Option (Bool) := (zm0 a0).run
def zr69 : LQ ((List Power)) := (Par.q zm)
def zwt : LQ (Bool) := (Par.q boolP)
def zzc : SpecT := zv 0 zr69 1 [] (fun s => zm0 s) default zwt 1 []
theorem z5z : zi Tryz.prog 56 (zzc).spec :=
  zf (A := za69) zh69 Facts.mix Tryz.func56 (c := zc69) (by kernel_rfl) (Lc := 0) ⟨za5d, trivial⟩ zr69 1 3 [] (fun s => zm0 s) default zwt 1 [] [] (by decide) (by kernel_rfl) (by rfl) (by decide) (by decide) (by rfl)
    (by rintro a0; kernel_rfl)
noncomputable def zc70 : Code := Tryz.f58.body.getD .skip
def zv70 : List (List Nat) := [[1, 2], [3]]
noncomputable def zy70 : EnvT := ⟨Tryz.prog, zr [(55, zni)]⟩
theorem zh70 : (zy70).Ok := ze ⟨zpa, trivial⟩
def za70 : Ann := ⟨[], [], [], zv70, []⟩
def zii (a0 : Asked) (a1 : za) : Tr (Bool × za) :=
  (.guard ((((decide (a0.C < 0)) || (decide (a0.C ≥ 2))) = false → ((0 : Int) ≤ a0.C ∧ (a0.C : Int) < 2) ∧ True))
  (.guard (((((decide (a0.C < 0)) || (decide (a0.C ≥ 2))) || (!(a1.Links.On.get a0.C))) = false → ((zgd a0.P).isSome = true) ∧ True))
  (.leaf (((((decide (a0.C < 0)) || (decide (a0.C ≥ 2))) || (!(a1.Links.On.get a0.C))) || (((zgd a0.P).getD default) != 0)) || (a0.P.Kind == 1), a1))))
def zk5 (a0 : Asked) (a1 : za) : Option (Bool × za) := (zii a0 a1).run
def zr70 : LQ (Asked × za) := (LQ.seq (Par.q (Par.ofLP zajw)) (LQ.skip (LQ.const (.ptr 0 0)) (LP.q providerL)))
def zro : LQ (Bool × za) := (LQ.seq (Par.q boolP) (LP.q providerL))
def zs6 : SpecT := zv 1 zr70 2 [.cells 61 97] (fun s => zii s.1 s.2) default zro 1 [.cells 61 97]
theorem z1m : zi Tryz.prog 58 (zs6).spec :=
  zf (A := za70) zh70 Facts.mix Tryz.func58 (c := zc70) (by kernel_rfl) (Lc := 1) trivial zr70 2 4 [.cells 61 97] (fun s => zii s.1 s.2) default zro 1 [.cells 61 97] [.pubN 0] (by decide) (by kernel_rfl) (by rfl) (by decide) (by decide) (by rfl)
    (by rintro ⟨a0, a1⟩; kernel_rfl)
noncomputable def zc71 : Code := Tryz.f75.body.getD .skip
def zv71 : List (List Nat) := [[0, 1], [0, 1, 7, 8], [0, 1, 7, 8, 9], [0, 1, 5, 7, 8], [0, 1, 5, 7, 8, 16], [4], [0, 1, 7, 8], [4]]
noncomputable def zy71 : EnvT := ⟨Tryz.prog, zr [(58, zs6)]⟩
theorem zh71 : (zy71).Ok := ze ⟨z1m, trivial⟩
def zab (x0 : (List Asked)) (x1 : Int) (x2 : Int) (x3 : za) : Tr (((List Asked) × Int × Int × za) ⊕ ((Int × za) ⊕ (za))) :=
  (.ite (decide (x2 < x1))
    (.guard ((0 : Int) ≤ x2 ∧ x2 < ((Sl.len (.asked x0) : Nat) : Int))
    (.bind (zk5 (x0.getD x2.toNat default) x3) fun v1 =>
    (.ite (v1.1)
      (.leaf (.inr (.inl (x2, v1.2))))
      (.leaf (.inl (x0, x1, IntKind.i64.wrap (x2 + 1), v1.2))))))
    (.leaf (.inr (.inr x3))))
def zei (x0 : (List Asked)) (x1 : Int) (x2 : Int) (x3 : za) : Option ((Int × za) ⊕ (za)) := zeh (fun s : (List Asked) × Int × Int × za => (zab s.1 s.2.1 s.2.2.1 s.2.2.2).run) (x0, x1, x2, x3)
def za5f : Ann := ⟨[], [], [], zv71, []⟩
def za5g : EndD ((List Asked) × Int × Int × za) := ⟨(LQ.seq (Par.q zfl) (LQ.skip (LQ.const (.fn 58 [.ptr 0 0])) (LQ.seq (Par.q intP) (LQ.seq (Par.q intP) (LP.q providerL))))), ⟨[0, 1, 7, 8], [.pub 0, .nilsl 0 (.asked [])]⟩, [.cells 61 97]⟩
def zasy : EndD (Int × za) := ⟨(LQ.seq (Par.q intP) (LP.q providerL)), ⟨[4], []⟩, [.cells 61 97]⟩
def zasz : EndD (za) := ⟨(LP.q providerL), ⟨[], []⟩, [.cells 61 97]⟩
def zawt : St → Option LR := L2 19 3 1 za5g .ret zasy (.exit 0) zasz (fun s => zab s.1 s.2.1 s.2.2.1 s.2.2.2)
theorem za5h : zq (zy71).env 1 (sub zc71 [0, 1, 0, 1]) zawt :=
  zn2 (A := za5f) zh71 Facts.mix trivial (k := zci (sub zc71 [0, 1, 0, 1])) (by kernel_rfl) rfl rfl (by rintro ⟨x0, x1, x2, x3⟩; kernel_rfl)
def za71 : Ann := ⟨[([0, 1, 0, 1], zawt)], [], [], zv71, []⟩
def zam (a0 : (List Asked)) (a1 : za) : Tr (Int × za) :=
  (.two (zei a0 ((a0.length : Nat) : Int) 0 a1) (fun v2 =>
    (.leaf (v2.1, v2.2))) (fun v3 =>
    (.leaf (-1, v3))))
def zco (a0 : (List Asked)) (a1 : za) : Option (Int × za) := (zam a0 a1).run
def zr71 : LQ ((List Asked) × za) := (LQ.seq (Par.q zfl) (LQ.skip (LQ.const (.fn 58 [.ptr 0 0])) (LP.q providerL)))
def zfv : LQ (Int × za) := (LQ.seq (Par.q intP) (LP.q providerL))
def zf3 : SpecT := zv 1 zr71 2 [.cells 61 97] (fun s => zam s.1 s.2) default zfv 1 [.cells 61 97]
theorem zl8 : zi Tryz.prog 75 (zf3).spec :=
  zf (A := za71) zh71 Facts.mix Tryz.func75 (c := zc71) (by kernel_rfl) (Lc := 1) ⟨za5h, trivial⟩ zr71 2 3 [.cells 61 97] (fun s => zam s.1 s.2) default zfv 1 [.cells 61 97] [.pubN 0] (by decide) (by kernel_rfl) (by rfl) (by decide) (by decide) (by rfl)
    (by rintro ⟨a0, a1⟩; kernel_rfl)
noncomputable def zc72 : Code := Tryz.f57.body.getD .skip
def zv72 : List (List Nat) := [[0, 1], [4]]
noncomputable def zy72 : EnvT := ⟨Tryz.prog, zr [(75, zf3)]⟩
theorem zh72 : (zy72).Ok := ze ⟨zl8, trivial⟩
def za72 : Ann := ⟨[], [], [], zv72, []⟩
def zbg (a0 : (List Asked)) (a1 : za) : Tr (Bool × za) :=
  (.bind (zco a0 a1) fun v1 =>
  (.leaf (decide (v1.1 ≥ 0), v1.2)))
def zcj (a0 : (List Asked)) (a1 : za) : Option (Bool × za) := (zbg a0 a1).run
def zr72 : LQ ((List Asked) × za) := (LQ.seq (Par.q zfl) (LQ.skip (LQ.const (.fn 58 [.ptr 0 0])) (LP.q providerL)))
def zfg : LQ (Bool × za) := (LQ.seq (Par.q boolP) (LP.q providerL))
def zfw : SpecT := zv 1 zr72 2 [.cells 61 97] (fun s => zbg s.1 s.2) default zfg 1 [.cells 61 97]
theorem zlt : zi Tryz.prog 57 (zfw).spec :=
  zf (A := za72) zh72 Facts.mix Tryz.func57 (c := zc72) (by kernel_rfl) (Lc := 1) trivial zr72 2 3 [.cells 61 97] (fun s => zbg s.1 s.2) default zfg 1 [.cells 61 97] [.pubN 0] (by decide) (by kernel_rfl) (by rfl) (by decide) (by decide) (by rfl)
    (by rintro ⟨a0, a1⟩; kernel_rfl)
noncomputable def zc73 : Code := Tryz.f25.body.getD .skip
def zv73 : List (List Nat) := [[1], [1, 36], [2], [1, 38, 39], [1, 38, 39, 40], [1, 4, 38, 39], [1, 4, 38, 39, 71], [2], [1, 4, 38, 39, 73, 74, 75], [1, 4, 38, 39, 73, 74, 75, 76], [1, 4, 5, 6, 38, 39, 73, 74, 75], [1, 4, 38, 39, 73, 74, 75, 99], [2], [1, 4, 38, 39, 73, 74, 75], [1, 38, 39], [2]]
noncomputable def zy73 : EnvT := ⟨Tryz.prog, zr [(21, zrc), (56, zzc), (52, zl3), (57, zfw)]⟩
theorem zh73 : (zy73).Ok := ze ⟨zt6, z5z, znh, zlt, trivial⟩
def zha (x0 : Links) (x1 : Int) (x2 : (List Int)) (x3 : Int) (x4 : Int) (x5 : za) (x6 : Link) : Tr ((Links × Int × (List Int) × Int × Int × za × Link) ⊕ ((Bool) ⊕ (Links × Int × za))) :=
  (.ite (decide (x4 < x3))
    (.guard ((0 : Int) ≤ x4 ∧ x4 < ((Sl.len (.ints x2) : Nat) : Int))
    (.guard (((decide (x4 > 0)) = true → (((decide ((x2.getD x4.toNat 0) < 0)) || (decide ((x2.getD x4.toNat 0) ≥ 6))) = false → ((0 : Int) ≤ (IntKind.i64.wrap (x4 - 1)) ∧ (IntKind.i64.wrap (x4 - 1)) < ((Sl.len (.ints x6.Done) : Nat) : Int)) ∧ True)))
    (.ite (((decide ((x2.getD x4.toNat 0) < 0)) || (decide ((x2.getD x4.toNat 0) ≥ 6))) || ((decide (x4 > 0)) && (decide ((x6.Done.getD ((IntKind.i64.wrap (x4 - 1)).toNat) 0) ≥ (x2.getD x4.toNat 0)))))
      (.leaf (.inr (.inl false)))
      (.leaf (.inl (x0, x1, x2, x3, IntKind.i64.wrap (x4 + 1), x5, x6))))))
    (.leaf (.inr (.inr (x0, x1, x5)))))
def zqb (x0 : Links) (x1 : Int) (x2 : (List Int)) (x3 : Int) (x4 : Int) (x5 : za) (x6 : Link) : Option ((Bool) ⊕ (Links × Int × za)) := zeh (fun s : Links × Int × (List Int) × Int × Int × za × Link => (zha s.1 s.2.1 s.2.2.1 s.2.2.2.1 s.2.2.2.2.1 s.2.2.2.2.2.1 s.2.2.2.2.2.2).run) (x0, x1, x2, x3, x4, x5, x6)
def za5l : Ann := ⟨[], [], [], zv73, []⟩
def za5m : EndD (Links × Int × (List Int) × Int × Int × za × Link) := ⟨(LQ.skip (LQ.const (.ptr 0 0)) (LQ.skip (LQ.const (.ptr 1 0)) (LQ.seq (Par.q (Par.ofLP linksL)) (LQ.seq (Par.q intP) (LQ.seq (Par.q zhg) (LQ.seq (Par.q intP) (LQ.seq (Par.q intP) (LQ.seq (LP.q providerL) (LP.q zau1))))))))), ⟨[1, 4, 38, 39, 73, 74, 75], [.pub 73, .nilsl 73 (.ints [])]⟩, [.cells 61 97, .cells 55 14]⟩
def zas0 : EndD (Bool) := ⟨(Par.q boolP), ⟨[2], []⟩, []⟩
def zas1 : EndD (Links × Int × za) := ⟨(LQ.skip (LQ.const (.ptr 0 0)) (LQ.seq (Par.q (Par.ofLP linksL)) (LQ.seq (Par.q intP) (LP.q providerL)))), ⟨[1, 38, 39], []⟩, [.cells 61 97]⟩
def zawv : St → Option LR := L2 107 4 0 za5m .ret zas0 (.exit 2) zas1 (fun s => zha s.1 s.2.1 s.2.2.1 s.2.2.2.1 s.2.2.2.2.1 s.2.2.2.2.2.1 s.2.2.2.2.2.2)
theorem za5n : zq (zy73).env 0 (sub zc73 [0, 1, 1, 1, 0, 0, 1, 1, 0, 0, 1, 0, 1, 1]) zawv :=
  zn2 (A := za5l) zh73 Facts.mix trivial (k := zci (sub zc73 [0, 1, 1, 1, 0, 0, 1, 1, 0, 0, 1, 0, 1, 1])) (by kernel_rfl) rfl rfl (by rintro ⟨x0, x1, x2, x3, x4, x5, x6⟩; kernel_rfl)
def zdm (x0 : Links) (x1 : Int) (x2 : za) : Tr ((Links × Int × za) ⊕ ((Bool) ⊕ (za))) :=
  (.ite (decide (x1 < 2))
    (.guard ((0 : Int) ≤ x1 ∧ (x1 : Int) < 2)
    (.guard ((((((x0.On.get x1) && (x0.Gone.get x1)) || (decide ((x0.Base.get x1) < 0))) || (decide ((x0.Base.get x1) > x2.Height))) = false → ((zd6 (x0.Told.get x1)).isSome = true) ∧ True))
    (.guard (((((((x0.On.get x1) && (x0.Gone.get x1)) || (decide ((x0.Base.get x1) < 0))) || (decide ((x0.Base.get x1) > x2.Height))) || (!((zd6 (x0.Told.get x1)).getD default))) = false → ((zet (⟨x0.Said.get x1, x0.Due.get x1, x0.Got.get x1, x0.Closed.get x1⟩ : zeg)).isSome = true) ∧ True))
    (.ite ((((((x0.On.get x1) && (x0.Gone.get x1)) || (decide ((x0.Base.get x1) < 0))) || (decide ((x0.Base.get x1) > x2.Height))) || (!((zd6 (x0.Told.get x1)).getD default))) || (!((zet (⟨x0.Said.get x1, x0.Due.get x1, x0.Got.get x1, x0.Closed.get x1⟩ : zeg)).getD default)))
      (.leaf (.inr (.inl false)))
      (.two (zqb x0 x1 (x0.Done.get x1) (((x0.Done.get x1).length : Nat) : Int) 0 x2 (⟨x0.On.get x1, x0.Gone.get x1, x0.Base.get x1, x0.Told.get x1, x0.Fresh.get x1, x0.Done.get x1, (⟨x0.Said.get x1, x0.Due.get x1, x0.Got.get x1, x0.Closed.get x1⟩ : zeg), (⟨x0.SHeight.get x1, x0.STime.get x1, x0.SSaid.get x1, x0.SGot.get x1⟩ : z7w)⟩ : Link)) (fun v2 =>
        (.leaf (.inr (.inl v2)))) (fun v3 =>
        (.leaf (.inl (v3.1, IntKind.i64.wrap (v3.2.1 + 1), v3.2.2)))))))))
    (.leaf (.inr (.inr x2))))
def zj0 (x0 : Links) (x1 : Int) (x2 : za) : Option ((Bool) ⊕ (za)) := zeh (fun s : Links × Int × za => (zdm s.1 s.2.1 s.2.2).run) (x0, x1, x2)
def za5o : Ann := ⟨[([0, 1, 1, 1, 0, 0, 1, 1, 0, 0, 1, 0, 1, 1], zawv)], [], [], zv73, []⟩
def za5p : EndD (Links × Int × za) := ⟨(LQ.skip (LQ.const (.ptr 0 0)) (LQ.seq (Par.q (Par.ofLP linksL)) (LQ.seq (Par.q intP) (LP.q providerL)))), ⟨[1, 38, 39], []⟩, [.cells 61 97]⟩
def zas2 : EndD (Bool) := ⟨(Par.q boolP), ⟨[2], []⟩, []⟩
def zas3 : EndD (za) := ⟨(LQ.skip (LQ.const (.ptr 0 0)) (LP.q providerL)), ⟨[1], []⟩, [.cells 61 97]⟩
def zaww : St → Option LR := L2 107 4 0 za5p .ret zas2 (.exit 0) zas3 (fun s => zdm s.1 s.2.1 s.2.2)
theorem za5q : zq (zy73).env 0 (sub zc73 [0, 1, 0, 1, 1]) zaww :=
  zn2 (A := za5o) zh73 Facts.mix ⟨za5n, trivial⟩ (k := zci (sub zc73 [0, 1, 0, 1, 1])) (by kernel_rfl) rfl rfl (by rintro ⟨x0, x1, x2⟩; kernel_rfl)
def za73 : Ann := ⟨[([0, 1, 0, 1, 1], zaww)], [], [], zv73, []⟩
def zk6 (a0 : za) : Tr (Bool) :=
  (.bind (zku a0.Stake) fun v1 =>
  (.guard (((((((!v1) || (decide (a0.Height < 0))) || (decide (a0.Height ≥ 1099511627776))) || (decide (a0.Time < 0))) || (decide (a0.Time > 1099511627776))) = false → ((zd6 a0.Set).isSome = true) ∧ True))
  (.ite ((((((!v1) || (decide (a0.Height < 0))) || (decide (a0.Height ≥ 1099511627776))) || (decide (a0.Time < 0))) || (decide (a0.Time > 1099511627776))) || (!((zd6 a0.Set).getD default)))
    (.leaf false)
    (.two (zj0 a0.Links 0 a0) (fun v4 =>
      (.leaf v4)) (fun v5 =>
      (.bind (zcj v5.Queue v5) fun v6 =>
      (.leaf (!v6.1))))))))
def zbt (a0 : za) : Option (Bool) := (zk6 a0).run
def zr73 : LQ (za) := (Par.q (Par.ofLP providerL))
def zu2 : LQ (Bool) := (Par.q boolP)
def zdb : SpecT := zv 0 zr73 1 [] (fun s => zk6 s) default zu2 1 []
theorem zds : zi Tryz.prog 25 (zdb).spec :=
  zf (A := za73) zh73 Facts.mix Tryz.func25 (c := zc73) (by kernel_rfl) (Lc := 0) ⟨za5q, trivial⟩ zr73 1 4 [] (fun s => zk6 s) default zu2 1 [] [] (by decide) (by kernel_rfl) (by rfl) (by decide) (by decide) (by rfl)
    (by rintro a0; kernel_rfl)
noncomputable def zc74 : Code := Tryz.f60.body.getD .skip
def zv74 : List (List Nat) := [[1, 2, 3, 4, 8], [1, 2, 3, 4, 8, 14], [8, 9], [4, 8, 10, 11], [4, 8, 10, 11, 26], [8, 9], [4, 8], [8, 9]]
noncomputable def zy74 : EnvT := ⟨Tryz.prog, zr [(25, zdb), (76, zuu)]⟩
theorem zh74 : (zy74).Ok := ze ⟨zds, z2a, trivial⟩
def za74 : Ann := ⟨[], [], [], zv74, []⟩
def zgf (a0 : za) (a1 : Int) (a2 : Int) (a3 : Int) : Tr (za × Int) :=
  (.bind (zbt a0) fun v1 =>
  (.ite (!v1)
    (.leaf (a0, 2))
    (.bind (zl4 a0.Stake a1 a2 a3) fun v2 =>
    (.ite (v2.2 != 0)
      (.leaf (a0, v2.2))
      (.leaf ({ (a0 : za) with Stake := v2.1 }, 0))))))
def zis (a0 : za) (a1 : Int) (a2 : Int) (a3 : Int) : Option (za × Int) := (zgf a0 a1 a2 a3).run
def zr74 : LQ (za × Int × Int × Int) := (LQ.seq (Par.q (Par.ofLP providerL)) (LQ.seq (Par.q intP) (LQ.seq (Par.q intP) (Par.q intP))))
def zoe : LQ (za × Int) := (LQ.seq (Par.q (Par.ofLP providerL)) (Par.q intP))
def zqc : SpecT := zv 0 zr74 4 [] (fun s => zgf s.1 s.2.1 s.2.2.1 s.2.2.2) default zoe 2 []
theorem zx7 : zi Tryz.prog 60 (zqc).spec :=
  zf (A := za74) zh74 Facts.mix Tryz.func60 (c := zc74) (by kernel_rfl) (Lc := 0) trivial zr74 4 5 [] (fun s => zgf s.1 s.2.1 s.2.2.1 s.2.2.2) default zoe 2 [] [.pubB 8] (by decide) (by kernel_rfl) (by rfl) (by decide) (by decide) (by rfl)
    (by rintro ⟨a0, a1, a2, a3⟩; kernel_rfl)
noncomputable def zc75 : Code := Tryz.f61.body.getD .skip
def zv75 : List (List Nat) := [[1, 2, 3, 4, 5, 10], [1, 2, 3, 4, 5, 10, 27], [10, 11], [1, 2, 3, 5, 10, 12], [1, 2, 3, 5, 10, 12, 35], [1, 2, 3, 5, 10, 12, 35, 36], [1, 2, 3, 5, 10, 12, 13, 35], [1, 2, 3, 5, 10, 12, 13, 35, 42], [1, 2, 3, 5, 10, 12, 35], [1, 2, 3, 5, 10, 12, 35], [5, 10, 14, 15], [5, 10, 14, 15, 61], [10, 11], [5, 10], [5, 10, 66], [5, 10, 66, 67], [5, 10, 16, 66], [5, 10, 66], [5, 10, 66], [10, 11]]
noncomputable def zy75 : EnvT := ⟨Tryz.prog, zr [(25, zdb), (77, zrd)]⟩
theorem zh75 : (zy75).Ok := ze ⟨zds, zz0, trivial⟩
def zbb (x0 : Int) (x1 : Int) (x2 : Int) (x3 : Int) (x4 : za) (x5 : za) (x6 : Wait) : Tr ((Int × Int × Int × Int × za × za × Wait) ⊕ (Int × Int × Int × za × za × Wait)) :=
  (.ite (decide (x3 < 2))
    (.guard ((0 : Int) ≤ x3 ∧ (x3 : Int) < 2)
    (.ite (x4.Links.On.get x3)
      (.guard ((0 : Int) ≤ x3 ∧ (x3 : Int) < 2)
      (.leaf (.inl (x0, x1, x2, IntKind.i64.wrap (x3 + 1), x4, x5, { (x6 : Wait) with h0 := if x3 = 0 then IntKind.i64.wrap (x4.Height + 1) else x6.h0, h1 := if x3 = 1 then IntKind.i64.wrap (x4.Height + 1) else x6.h1 }))))
      (.leaf (.inl (x0, x1, x2, IntKind.i64.wrap (x3 + 1), x4, x5, x6)))))
    (.leaf (.inr (x0, x1, x2, x4, x5, x6))))
def zfb (x0 : Int) (x1 : Int) (x2 : Int) (x3 : Int) (x4 : za) (x5 : za) (x6 : Wait) : Option (Int × Int × Int × za × za × Wait) := zeh (fun s : Int × Int × Int × Int × za × za × Wait => (zbb s.1 s.2.1 s.2.2.1 s.2.2.2.1 s.2.2.2.2.1 s.2.2.2.2.2.1 s.2.2.2.2.2.2).run) (x0, x1, x2, x3, x4, x5, x6)
def za5u : Ann := ⟨[], [], [], zv75, []⟩
def za5v : EndD (Int × Int × Int × Int × za × za × Wait) := ⟨(LQ.seq (Par.q intP) (LQ.seq (Par.q intP) (LQ.seq (Par.q intP) (LQ.skip (LQ.const (.ptr 0 0)) (LQ.skip (LQ.const (.ptr 1 0)) (LQ.skip (LQ.const (.ptr 2 0)) (LQ.seq (Par.q intP) (LQ.seq (LP.q providerL) (LQ.seq (LP.q providerL) (LP.q zard)))))))))), ⟨[1, 2, 3, 5, 10, 12, 35], []⟩, [.cells 61 97, .cells 61 97, .cells 98 8]⟩
def zas4 : EndD (Int × Int × Int × za × za × Wait) := ⟨(LQ.seq (Par.q intP) (LQ.seq (Par.q intP) (LQ.seq (Par.q intP) (LQ.skip (LQ.const (.ptr 0 0)) (LQ.skip (LQ.const (.ptr 1 0)) (LQ.skip (LQ.const (.ptr 2 0)) (LQ.seq (LP.q providerL) (LQ.seq (LP.q providerL) (LP.q zard))))))))), ⟨[1, 2, 3, 5, 10, 12], []⟩, [.cells 61 97, .cells 61 97, .cells 98 8]⟩
def zawy : St → Option LR := L1 87 6 0 za5v (.exit 0) zas4 (fun s => zbb s.1 s.2.1 s.2.2.1 s.2.2.2.1 s.2.2.2.2.1 s.2.2.2.2.2.1 s.2.2.2.2.2.2)
theorem za5w : zq (zy75).env 0 (sub zc75 [0, 1, 0, 1, 1, 1]) zawy :=
  ziy (A := za5u) zh75 Facts.mix trivial (k := zci (sub zc75 [0, 1, 0, 1, 1, 1])) (by kernel_rfl) rfl (by rintro ⟨x0, x1, x2, x3, x4, x5, x6⟩; kernel_rfl)
def zbc (x0 : Int) (x1 : za) (x2 : za) : Tr ((Int × za × za) ⊕ (za × za)) :=
  (.ite (decide (x0 < 2))
    (.guard ((0 : Int) ≤ x0 ∧ (x0 : Int) < 2)
    (.guard (((x1.Links.Fresh.get x0) = false → ((0 : Int) ≤ x0 ∧ (x0 : Int) < 2) ∧ True))
    (.guard ((0 : Int) ≤ x0 ∧ (x0 : Int) < 2)
    (.leaf (.inl (IntKind.i64.wrap (x0 + 1), { (x1 : za) with Links := { (x1.Links : Links) with Fresh := (x1.Links.Fresh.set x0 ((x1.Links.Fresh.get x0) || (x1.Links.On.get x0))) } }, x2))))))
    (.leaf (.inr (x1, x2))))
def zjc (x0 : Int) (x1 : za) (x2 : za) : Option (za × za) := zeh (fun s : Int × za × za => (zbc s.1 s.2.1 s.2.2).run) (x0, x1, x2)
def za5x : Ann := ⟨[], [], [], zv75, []⟩
def za5y : EndD (Int × za × za) := ⟨(LQ.skip (LQ.const (.ptr 0 0)) (LQ.skip (LQ.const (.ptr 1 0)) (LQ.seq (Par.q intP) (LQ.seq (LP.q providerL) (LP.q providerL))))), ⟨[5, 10, 66], []⟩, [.cells 61 97, .cells 61 97]⟩
def zas5 : EndD (za × za) := ⟨(LQ.skip (LQ.const (.ptr 0 0)) (LQ.skip (LQ.const (.ptr 1 0)) (LQ.seq (LP.q providerL) (LP.q providerL)))), ⟨[5, 10], []⟩, [.cells 61 97, .cells 61 97]⟩
def zawz : St → Option LR := L1 87 6 0 za5y (.exit 2) zas5 (fun s => zbc s.1 s.2.1 s.2.2)
theorem za5z : zq (zy75).env 0 (sub zc75 [0, 1, 0, 1, 1, 1, 1, 1, 1, 1]) zawz :=
  ziy (A := za5x) zh75 Facts.mix trivial (k := zci (sub zc75 [0, 1, 0, 1, 1, 1, 1, 1, 1, 1])) (by kernel_rfl) rfl (by rintro ⟨x0, x1, x2⟩; kernel_rfl)
def za75 : Ann := ⟨[([0, 1, 0, 1, 1, 1], zawy), ([0, 1, 0, 1, 1, 1, 1, 1, 1, 1], zawz)], [], [], zv75, []⟩
def zey (a0 : za) (a1 : Int) (a2 : Int) (a3 : Int) (a4 : Int) : Tr (za × Int) :=
  (.bind (zbt a0) fun v1 =>
  (.ite (((!v1) || (decide (a4 < 0))) || (decide (a4 > 1099511627776)))
    (.leaf (a0, 2))
    (.bind (zfb a1 a2 a3 0 a0 (default : za) (⟨0, 0, 0, 0, IntKind.i64.wrap (a0.Height + 1), IntKind.i64.wrap (a4 + 20), 0, 0⟩ : Wait)) fun v2 =>
    (.bind (zjx v2.2.2.2.1.Stake v2.1 v2.2.1 v2.2.2.1 v2.2.2.2.2.2) fun v3 =>
    (.ite (v3.2 != 0)
      (.leaf (v2.2.2.2.1, v3.2))
      (.bind (zjc 0 ({ (v2.2.2.2.1 : za) with Stake := v3.1 }) v2.2.2.2.2.1) fun v4 =>
      (.leaf (v4.1, 0))))))))
def zbm (a0 : za) (a1 : Int) (a2 : Int) (a3 : Int) (a4 : Int) : Option (za × Int) := (zey a0 a1 a2 a3 a4).run
def zr75 : LQ (za × Int × Int × Int × Int) := (LQ.seq (Par.q (Par.ofLP providerL)) (LQ.seq (Par.q intP) (LQ.seq (Par.q intP) (LQ.seq (Par.q intP) (Par.q intP)))))
def zlw : LQ (za × Int) := (LQ.seq (Par.q (Par.ofLP providerL)) (Par.q intP))
def znm : SpecT := zv 0 zr75 5 [] (fun s => zey s.1 s.2.1 s.2.2.1 s.2.2.2.1 s.2.2.2.2) default zlw 2 []
theorem zvk : zi Tryz.prog 61 (znm).spec :=
  zf (A := za75) zh75 Facts.mix Tryz.func61 (c := zc75) (by kernel_rfl) (Lc := 0) ⟨za5w, za5z, trivial⟩ zr75 5 6 [] (fun s => zey s.1 s.2.1 s.2.2.1 s.2.2.2.1 s.2.2.2.2) default zlw 2 [] [.pubB 10] (by decide) (by kernel_rfl) (by rfl) (by decide) (by decide) (by rfl)
    (by rintro ⟨a0, a1, a2, a3, a4⟩; kernel_rfl)
noncomputable def zc76 : Code := Tryz.f82.body.getD .skip
def zv76 : List (List Nat) := [[1, 2, 4], [1, 2, 4, 8], [4, 5], [1, 2, 4, 13], [4, 5], [1, 2, 4, 21], [4, 5], [1, 2, 4, 28], [4, 5], [1, 2, 4, 35], [4, 5], [1, 2, 4], [1, 2, 4], [1, 2, 4, 64, 65], [1, 2, 4, 64, 65, 66], [1, 2, 4, 6, 64, 65], [1, 2, 4, 7, 64, 65], [1, 2, 4, 7, 64, 65, 79], [1, 2, 4, 64, 65], [1, 2, 4, 64, 65], [1, 2, 4, 64, 65], [4, 5]]
noncomputable def zy76 : EnvT := ⟨Tryz.prog, zr [(25, zdb), (102, zek), (94, zb3)]⟩
theorem zh76 : (zy76).Ok := ze ⟨zds, zhj, zdi, trivial⟩
def zd7 (x0 : Int) (x1 : Int) (x2 : Int) (x3 : za) (x4 : za) : Tr ((Int × Int × Int × za × za) ⊕ (za × za)) :=
  (.ite (decide (x2 < x1))
    (.guard ((0 : Int) ≤ x2 ∧ x2 < ((Sl.len (.waits x3.Stake.Waits) : Nat) : Int))
    (.ite (decide (((x3.Stake.Waits.getD x2.toNat default).Height) > x3.Height))
      (.guard ((0 : Int) ≤ x0 ∧ (x0 : Int) < 2)
      (.guard ((0 : Int) ≤ x0 ∧ (x0 : Int) < 2)
      (.leaf (.inl (x0, x1, IntKind.i64.wrap (x2 + 1), { (x3 : za) with Stake := { (x3.Stake : Stake) with Waits := x3.Stake.Waits.set x2.toNat ({ ((x3.Stake.Waits.getD x2.toNat default) : Wait) with h0 := if x0 = 0 then (x3.Stake.Waits.getD x2.toNat default).Height else (x3.Stake.Waits.getD x2.toNat default).h0, h1 := if x0 = 1 then (x3.Stake.Waits.getD x2.toNat default).Height else (x3.Stake.Waits.getD x2.toNat default).h1 }) }, Links := { (x3.Links : Links) with Fresh := (x3.Links.Fresh.set x0 true) } }, x4)))))
      (.leaf (.inl (x0, x1, IntKind.i64.wrap (x2 + 1), x3, x4)))))
    (.leaf (.inr (x3, x4))))
def zit (x0 : Int) (x1 : Int) (x2 : Int) (x3 : za) (x4 : za) : Option (za × za) := zeh (fun s : Int × Int × Int × za × za => (zd7 s.1 s.2.1 s.2.2.1 s.2.2.2.1 s.2.2.2.2).run) (x0, x1, x2, x3, x4)
def za6b : Ann := ⟨[], [], [], zv76, []⟩
def za6c : EndD (Int × Int × Int × za × za) := ⟨(LQ.map (LQ.seq (Par.q intP) (LQ.skip (LQ.const (.ptr 0 0)) (LQ.skip (LQ.const (.ptr 1 0)) (LQ.seq (Par.q intP) (LQ.seq (Par.q intP) (LQ.seq (Par.q intP) (LQ.seq (Par.q intP) (LQ.seq (LP.q bankL) (LQ.seq (LP.q validatorsL) (LQ.seq (LP.q (a4L (a6L (LP.one intP)))) (LQ.skip (LQ.const (.own 2)) (LQ.seq (Par.q intP) (LQ.seq (Par.q zm) (LQ.seq (LP.q linksL) (LQ.seq (LP.q meterL) (LQ.seq (Par.q zfl) (LQ.seq (LP.q providerL) (Par.q znf)))))))))))))))))) (fun x : Int × Int × Int × Int × Int × Bank × Validators × (A4 (A6 Int)) × Int × (List Power) × Links × Meter × (List Asked) × za × (List Wait) => ((x.1, x.2.1, x.2.2.1, (⟨x.2.2.2.1, x.2.2.2.2.1, (⟨x.2.2.2.2.2.1, x.2.2.2.2.2.2.1, x.2.2.2.2.2.2.2.1, x.2.2.2.2.2.2.2.2.2.2.2.2.2.2, x.2.2.2.2.2.2.2.2.1⟩ : Stake), x.2.2.2.2.2.2.2.2.2.1, x.2.2.2.2.2.2.2.2.2.2.1, x.2.2.2.2.2.2.2.2.2.2.2.1, x.2.2.2.2.2.2.2.2.2.2.2.2.1⟩ : za), x.2.2.2.2.2.2.2.2.2.2.2.2.2.1) : Int × Int × Int × za × za)) (fun y => (y.1, y.2.1, y.2.2.1, y.2.2.2.1.Height, y.2.2.2.1.Time, y.2.2.2.1.Stake.Bank, y.2.2.2.1.Stake.Validators, y.2.2.2.1.Stake.Shares, y.2.2.2.1.Stake.Next, y.2.2.2.1.Set, y.2.2.2.1.Links, y.2.2.2.1.Meter, y.2.2.2.1.Queue, y.2.2.2.2, y.2.2.2.1.Stake.Waits)) (fun _ => rfl)), ⟨[1, 2, 4, 64, 65], [.nilcell 2 63 98 (.waits [])]⟩, [.cells 61 97, .cells 61 97, .rows 98]⟩
def zas6 : EndD (za × za) := ⟨(LQ.map (LQ.skip (LQ.const (.ptr 0 0)) (LQ.skip (LQ.const (.ptr 1 0)) (LQ.seq (Par.q intP) (LQ.seq (Par.q intP) (LQ.seq (LP.q bankL) (LQ.seq (LP.q validatorsL) (LQ.seq (LP.q (a4L (a6L (LP.one intP)))) (LQ.skip (LQ.const (.own 2)) (LQ.seq (Par.q intP) (LQ.seq (Par.q zm) (LQ.seq (LP.q linksL) (LQ.seq (LP.q meterL) (LQ.seq (Par.q zfl) (LQ.seq (LP.q providerL) (Par.q znf))))))))))))))) (fun x : Int × Int × Bank × Validators × (A4 (A6 Int)) × Int × (List Power) × Links × Meter × (List Asked) × za × (List Wait) => (((⟨x.1, x.2.1, (⟨x.2.2.1, x.2.2.2.1, x.2.2.2.2.1, x.2.2.2.2.2.2.2.2.2.2.2, x.2.2.2.2.2.1⟩ : Stake), x.2.2.2.2.2.2.1, x.2.2.2.2.2.2.2.1, x.2.2.2.2.2.2.2.2.1, x.2.2.2.2.2.2.2.2.2.1⟩ : za), x.2.2.2.2.2.2.2.2.2.2.1) : za × za)) (fun y => (y.1.Height, y.1.Time, y.1.Stake.Bank, y.1.Stake.Validators, y.1.Stake.Shares, y.1.Stake.Next, y.1.Set, y.1.Links, y.1.Meter, y.1.Queue, y.2, y.1.Stake.Waits)) (fun _ => rfl)), ⟨[2, 4], [.nilcell 2 63 98 (.waits [])]⟩, [.cells 61 97, .cells 61 97, .rows 98]⟩
def zaw0 : St → Option LR := L1 95 5 0 za6c (.exit 1) zas6 (fun s => zd7 s.1 s.2.1 s.2.2.1 s.2.2.2.1 s.2.2.2.2)
theorem za6d : zq (zy76).env 0 (sub zc76 [0, 1, 0, 1, 1, 1, 1]) zaw0 :=
  ziy (A := za6b) zh76 Facts.mix trivial (k := zci (sub zc76 [0, 1, 0, 1, 1, 1, 1])) (by kernel_rfl) rfl (by rintro ⟨x0, x1, x2, x3, x4⟩; kernel_rfl)
def za76 : Ann := ⟨[([0, 1, 0, 1, 1, 1, 1], zaw0)], [], [], zv76, []⟩
def zjp (a0 : za) (a1 : Int) : Tr (za × Int) :=
  (.bind (zbt a0) fun v1 =>
  (.ite (!v1)
    (.leaf (a0, 2))
    (.ite ((decide (a1 < 0)) || (decide (a1 ≥ 2)))
      (.leaf (a0, 4))
      (.guard ((0 : Int) ≤ a1 ∧ (a1 : Int) < 2)
      (.ite (a0.Links.Gone.get a1)
        (.leaf (a0, 11))
        (.guard ((0 : Int) ≤ a1 ∧ (a1 : Int) < 2)
        (.ite (a0.Links.On.get a1)
          (.leaf (a0, 5))
          (.ite ((decide (a0.Height < 1)) || (((a0.Set.length : Nat) : Int) == 0))
            (.leaf (a0, 13))
            (.guard ((zak a0.Set).isSome = true)
            (.guard ((0 : Int) ≤ a1 ∧ (a1 : Int) < 2)
            (.bind (zu a0.Stake.Waits) fun v2 =>
            (.bind (zit a1 ((v2.length : Nat) : Int) 0 ({ (a0 : za) with Stake := { (a0.Stake : Stake) with Waits := v2 }, Links := (⟨(a0.Links.On.set a1 true), (a0.Links.Gone.set a1 false), (a0.Links.Base.set a1 a0.Height), (a0.Links.Told.set a1 ((zak a0.Set).getD default)), (a0.Links.Fresh.set a1 false), (a0.Links.Done.set a1 []), (a0.Links.Said.set a1 []), (a0.Links.Due.set a1 []), (a0.Links.Got.set a1 0), (a0.Links.Closed.set a1 false), (a0.Links.SHeight.set a1 0), (a0.Links.STime.set a1 0), (a0.Links.SSaid.set a1 0), (a0.Links.SGot.set a1 0)⟩ : Links) }) (default : za)) fun v3 =>
            (.leaf (v3.1, 0))))))))))))))
def zal (a0 : za) (a1 : Int) : Option (za × Int) := (zjp a0 a1).run
def zr76 : LQ (za × Int) := (LQ.seq (Par.q (Par.ofLP providerL)) (Par.q intP))
def zs7 : LQ (za × Int) := (LQ.seq (Par.q (Par.ofLP providerL)) (Par.q intP))
def zu3 : SpecT := zv 0 zr76 2 [] (fun s => zjp s.1 s.2) default zs7 2 []
theorem z2c : zi Tryz.prog 82 (zu3).spec :=
  zf (A := za76) zh76 Facts.mix Tryz.func82 (c := zc76) (by kernel_rfl) (Lc := 0) ⟨za6d, trivial⟩ zr76 2 5 [] (fun s => zjp s.1 s.2) default zs7 2 [] [.pubB 4] (by decide) (by kernel_rfl) (by rfl) (by decide) (by decide) (by rfl)
    (by rintro ⟨a0, a1⟩; kernel_rfl)
noncomputable def zc77 : Code := Tryz.f137.body.getD .skip
def zv77 : List (List Nat) := [[1, 2], [3]]
noncomputable def zy77 : EnvT := ⟨Tryz.prog, zr []⟩
theorem zh77 : (zy77).Ok := ze trivial
def za77 : Ann := ⟨[], [], [], zv77, []⟩
def zgg (a0 : Asked) (a1 : Int) : Tr (Bool × Int) :=
  (.leaf (a0.C == a1, a1))
def zfi (a0 : Asked) (a1 : Int) : Option (Bool × Int) := (zgg a0 a1).run
def zr77 : LQ (Asked × Int) := (LQ.seq (Par.q (Par.ofLP zajw)) (LQ.skip (LQ.const (.ptr 0 0)) (Par.q intP)))
def zof : LQ (Bool × Int) := (LQ.seq (Par.q boolP) (Par.q intP))
def zj1 : SpecT := zv 1 zr77 2 [.cells 3 1] (fun s => zgg s.1 s.2) default zof 1 [.cells 3 1]
theorem zog : zi Tryz.prog 137 (zj1).spec :=
  zf (A := za77) zh77 Facts.mix Tryz.func137 (c := zc77) (by kernel_rfl) (Lc := 1) trivial zr77 2 4 [.cells 3 1] (fun s => zgg s.1 s.2) default zof 1 [.cells 3 1] [] (by decide) (by kernel_rfl) (by rfl) (by decide) (by decide) (by rfl)
    (by rintro ⟨a0, a1⟩; kernel_rfl)
noncomputable def zc78 : Code := Tryz.f75.body.getD .skip
def zv78 : List (List Nat) := [[0, 1], [0, 1, 7, 8], [0, 1, 7, 8, 9], [0, 1, 5, 7, 8], [0, 1, 5, 7, 8, 16], [4], [0, 1, 7, 8], [4]]
noncomputable def zy78 : EnvT := ⟨Tryz.prog, zr [(137, zj1)]⟩
theorem zh78 : (zy78).Ok := ze ⟨zog, trivial⟩
def zac (x0 : Int) (x1 : Int) (x2 : Int) (x3 : (List Asked)) : Tr ((Int × Int × Int × (List Asked)) ⊕ ((Int × Int × (List Asked)) ⊕ (Int × (List Asked)))) :=
  (.ite (decide (x1 < x0))
    (.guard ((0 : Int) ≤ x1 ∧ x1 < ((Sl.len (.asked x3) : Nat) : Int))
    (.bind (zfi (x3.getD x1.toNat default) x2) fun v1 =>
    (.ite (v1.1)
      (.leaf (.inr (.inl (x1, v1.2, x3))))
      (.leaf (.inl (x0, IntKind.i64.wrap (x1 + 1), v1.2, x3))))))
    (.leaf (.inr (.inr (x2, x3)))))
def zb0 (x0 : Int) (x1 : Int) (x2 : Int) (x3 : (List Asked)) : Option ((Int × Int × (List Asked)) ⊕ (Int × (List Asked))) := zeh (fun s : Int × Int × Int × (List Asked) => (zac s.1 s.2.1 s.2.2.1 s.2.2.2).run) (x0, x1, x2, x3)
def za6f : Ann := ⟨[], [], [], zv78, []⟩
def za6g : EndD (Int × Int × Int × (List Asked)) := ⟨(LQ.skip (LQ.const (.own 1)) (LQ.skip (LQ.const (.fn 137 [.ptr 0 0])) (LQ.seq (Par.q intP) (LQ.seq (Par.q intP) (LQ.seq (Par.q intP) (Par.q zfl)))))), ⟨[0, 1, 7, 8], [.nilown 0 101 (.asked [])]⟩, [.cells 3 1, .rows 101]⟩
def zas7 : EndD (Int × Int × (List Asked)) := ⟨(LQ.seq (Par.q intP) (LQ.seq (Par.q intP) (Par.q zfl))), ⟨[4], []⟩, [.cells 3 1, .rows 101]⟩
def zas8 : EndD (Int × (List Asked)) := ⟨(LQ.seq (Par.q intP) (Par.q zfl)), ⟨[], []⟩, [.cells 3 1, .rows 101]⟩
def zaw1 : St → Option LR := L2 19 4 2 za6g .ret zas7 (.exit 0) zas8 (fun s => zac s.1 s.2.1 s.2.2.1 s.2.2.2)
theorem za6h : zq (zy78).env 2 (sub zc78 [0, 1, 0, 1]) zaw1 :=
  zn2 (A := za6f) zh78 Facts.mix trivial (k := zci (sub zc78 [0, 1, 0, 1])) (by kernel_rfl) rfl rfl (by rintro ⟨x0, x1, x2, x3⟩; kernel_rfl)
def za78 : Ann := ⟨[([0, 1, 0, 1], zaw1)], [], [], zv78, []⟩
def zbl (a0 : Int) (a1 : (List Asked)) : Tr (Int × Int × (List Asked)) :=
  (.two (zb0 ((a1.length : Nat) : Int) 0 a0 a1) (fun v2 =>
    (.leaf (v2.1, v2.2.1, v2.2.2))) (fun v3 =>
    (.leaf (-1, v3.1, v3.2))))
def zbh (a0 : Int) (a1 : (List Asked)) : Option (Int × Int × (List Asked)) := (zbl a0 a1).run
def zr78 : LQ (Int × (List Asked)) := (LQ.skip (LQ.const (.own 1)) (LQ.skip (LQ.const (.fn 137 [.ptr 0 0])) (LQ.seq (Par.q intP) (Par.q zfl))))
def zfx : LQ (Int × Int × (List Asked)) := (LQ.seq (Par.q intP) (LQ.seq (Par.q intP) (Par.q zfl)))
def zf4 : SpecT := zv 2 zr78 2 [.cells 3 1, .rows 101] (fun s => zbl s.1 s.2) default zfx 1 [.cells 3 1, .rows 101]
theorem zl9 : zi Tryz.prog 75 (zf4).spec :=
  zf (A := za78) zh78 Facts.mix Tryz.func75 (c := zc78) (by kernel_rfl) (Lc := 2) ⟨za6h, trivial⟩ zr78 2 4 [.cells 3 1, .rows 101] (fun s => zbl s.1 s.2) default zfx 1 [.cells 3 1, .rows 101] [] (by decide) (by kernel_rfl) (by rfl) (by decide) (by decide) (by rfl)
    (by rintro ⟨a0, a1⟩; kernel_rfl)
noncomputable def zc79 : Code := Tryz.f136.body.getD .skip
def zv79 : List (List Nat) := [[0, 1], [0, 1, 5], [0, 1, 5, 12], [4], [0, 1, 5, 6], [0, 1, 5, 6, 19], [0, 1, 5, 6], [0, 1, 5, 6, 7], [0, 1, 5, 6, 7, 29], [0, 1, 5, 6], [0, 1, 5, 6], [0, 5], [4]]
noncomputable def zy79 : EnvT := ⟨Tryz.prog, zr [(75, zf4), (137, zj1)]⟩
theorem zh79 : (zy79).Ok := ze ⟨zl9, zog, trivial⟩
def zaw2 : St → Option LR := clearL 0 5 36 37 38
theorem za6j : zq (zy79).env 1 (sub zc79 [0, 1, 1, 1, 1]) zaw2 :=
  zanp (T := 59) (E := 101) (z := (zl Tryz.prog (zeroValue 101)).getD undef) (by kernel_rfl) (by kernel_rfl) (by kernel_rfl) (by kernel_rfl) (by decide) (by decide) (by kernel_rfl) (by kernel_rfl) (by kernel_rfl) (by kernel_rfl)
def zai (x0 : Int) (x1 : Int) (x2 : Int) (x3 : (List Asked)) : Tr ((Int × Int × Int × (List Asked)) ⊕ (Int × Int × (List Asked))) :=
  (.ite (decide (x1 < ((x3.length : Nat) : Int)))
    (.guard ((0 : Int) ≤ x1 ∧ x1 < ((Sl.len (.asked x3) : Nat) : Int))
    (.bind (zfi (x3.getD x1.toNat default) x2) fun v2 =>
    (.ite (!v2.1)
      (.guard ((0 : Int) ≤ x0 ∧ x0 < ((Sl.len (.asked x3) : Nat) : Int))
      (.leaf (.inl (IntKind.i64.wrap (x0 + 1), IntKind.i64.wrap (x1 + 1), v2.2, x3.set x0.toNat (x3.getD x1.toNat default)))))
      (.leaf (.inl (x0, IntKind.i64.wrap (x1 + 1), v2.2, x3))))))
    (.leaf (.inr (x0, x2, x3))))
def zb7 (x0 : Int) (x1 : Int) (x2 : Int) (x3 : (List Asked)) : Option (Int × Int × (List Asked)) := zeh (fun s : Int × Int × Int × (List Asked) => (zai s.1 s.2.1 s.2.2.1 s.2.2.2).run) (x0, x1, x2, x3)
def za6k : Ann := ⟨[], [], [], zv79, []⟩
def za6l : EndD (Int × Int × Int × (List Asked)) := ⟨(LQ.skip (LQ.const (.own 1)) (LQ.skip (LQ.const (.fn 137 [.ptr 0 0])) (LQ.seq (Par.q intP) (LQ.seq (Par.q intP) (LQ.seq (Par.q intP) (Par.q zfl)))))), ⟨[0, 1, 5, 6], [.nilown 0 101 (.asked [])]⟩, [.cells 3 1, .rows 101]⟩
def zas9 : EndD (Int × Int × (List Asked)) := ⟨(LQ.skip (LQ.const (.own 1)) (LQ.seq (Par.q intP) (LQ.seq (Par.q intP) (Par.q zfl)))), ⟨[0, 5], [.nilown 0 101 (.asked [])]⟩, [.cells 3 1, .rows 101]⟩
def zaw3 : St → Option LR := L1 42 5 1 za6l (.exit 0) zas9 (fun s => zai s.1 s.2.1 s.2.2.1 s.2.2.2)
theorem za6m : zq (zy79).env 1 (sub zc79 [0, 1, 0, 1, 1, 1]) zaw3 :=
  ziy (A := za6k) zh79 Facts.mix trivial (k := zci (sub zc79 [0, 1, 0, 1, 1, 1])) (by kernel_rfl) rfl (by rintro ⟨x0, x1, x2, x3⟩; kernel_rfl)
def za79 : Ann := ⟨[([0, 1, 0, 1, 1, 1], zaw3), ([0, 1, 1, 1, 1], zaw2)], [], [], zv79, []⟩
def zbu (a0 : Int) (a1 : (List Asked)) : Tr (Int × (List Asked)) :=
  (.bind (zbh a0 a1) fun v1 =>
  (.ite (v1.1 == (-1))
    (.leaf (v1.2.1, v1.2.2))
    (.bind (zb7 v1.1 (IntKind.i64.wrap (v1.1 + 1)) v1.2.1 v1.2.2) fun v3 =>
    (.bind (zabz v3.2.2 v3.1) fun v4 =>
    (.guard ((0 : Int) ≤ v3.1 ∧ v3.1 ≤ ((Sl.len (.asked v4) : Nat) : Int))
    (.leaf (v3.2.1, ((v4.drop 0).take (v3.1.toNat - 0)))))))))
def zdc (a0 : Int) (a1 : (List Asked)) : Option (Int × (List Asked)) := (zbu a0 a1).run
def zr79 : LQ (Int × (List Asked)) := (LQ.skip (LQ.const (.own 1)) (LQ.skip (LQ.const (.fn 137 [.ptr 0 0])) (LQ.seq (Par.q intP) (Par.q zfl))))
def zf5 : LQ (Int × (List Asked)) := (LQ.skip (LQ.const (.own 1)) (LQ.seq (Par.q intP) (Par.q zfl)))
def zgq : SpecT := zv 1 zr79 2 [.cells 3 1, .rows 101] (fun s => zbu s.1 s.2) default zf5 1 [.cells 3 1, .rows 101]
theorem znn : zi Tryz.prog 136 (zgq).spec :=
  zf (A := za79) zh79 Facts.mix Tryz.func136 (c := zc79) (by kernel_rfl) (Lc := 1) ⟨za6m, za6j, trivial⟩ zr79 2 5 [.cells 3 1, .rows 101] (fun s => zbu s.1 s.2) default zf5 1 [.cells 3 1, .rows 101] [.nilown 4 101 (.asked [])] (by decide) (by kernel_rfl) (by rfl) (by decide) (by decide) (by rfl)
    (by rintro ⟨a0, a1⟩; kernel_rfl)
noncomputable def zc80 : Code := Tryz.f110.body.getD .skip
def zv80 : List (List Nat) := [[2, 3, 4], [2, 3, 4, 23], [4], [2, 3, 4], [2, 3, 4], [2, 3, 4], [2, 4], [4]]
noncomputable def zy80 : EnvT := ⟨Tryz.prog, zr [(25, zdb), (121, zp3), (134, zfm), (136, zgq)]⟩
theorem zh80 : (zy80).Ok := ze ⟨zds, zuw, zi6, znn, trivial⟩
def za80 : Ann := ⟨[], [], [], zv80, []⟩
def zij (a0 : za) (a1 : Int) : Tr (za) :=
  (.bind (zbt a0) fun v1 =>
  (.guard (((((!v1) || (decide (a1 < 0))) || (decide (a1 ≥ 2))) = false → ((0 : Int) ≤ a1 ∧ (a1 : Int) < 2) ∧ True))
  (.ite ((((!v1) || (decide (a1 < 0))) || (decide (a1 ≥ 2))) || (!(a0.Links.On.get a1)))
    (.leaf a0)
    (.guard ((0 : Int) ≤ a1 ∧ (a1 : Int) < 2)
    (.guard ((0 : Int) ≤ a1 ∧ (a1 : Int) < 2)
    (.guard ((0 : Int) ≤ a1 ∧ (a1 : Int) < 2)
    (.guard ((0 : Int) ≤ a1 ∧ (a1 : Int) < 2)
    (.guard ((0 : Int) ≤ a1 ∧ (a1 : Int) < 2)
    (.bind (zgl a0.Stake a1 1099511627776) fun v2 =>
    (.bind (zar a0.Queue) fun v3 =>
    (.bind (zdc a1 v3) fun v4 =>
    (.leaf ({ (a0 : za) with Stake := v2, Links := { (a0.Links : Links) with On := (a0.Links.On.set a1 false), Gone := (a0.Links.Gone.set a1 true), Fresh := (a0.Links.Fresh.set a1 false), Done := (a0.Links.Done.set a1 []), Closed := (a0.Links.Closed.set a1 true) }, Queue := v4.2 })))))))))))))
def zdn (a0 : za) (a1 : Int) : Option (za) := (zij a0 a1).run
def zr80 : LQ (za × Int) := (LQ.seq (Par.q (Par.ofLP providerL)) (Par.q intP))
def zrp : LQ (za) := (Par.q (Par.ofLP providerL))
def zs8 : SpecT := zv 0 zr80 2 [] (fun s => zij s.1 s.2) default zrp 1 []
theorem z1n : zi Tryz.prog 110 (zs8).spec :=
  zf (A := za80) zh80 Facts.mix Tryz.func110 (c := zc80) (by kernel_rfl) (Lc := 0) trivial zr80 2 7 [] (fun s => zij s.1 s.2) default zrp 1 [] [.pubB 4] (by decide) (by kernel_rfl) (by rfl) (by decide) (by decide) (by rfl)
    (by rintro ⟨a0, a1⟩; kernel_rfl)
noncomputable def zc81 : Code := Tryz.f107.body.getD .skip
def zv81 : List (List Nat) := [[1, 2, 3, 6], [1, 3, 6, 8, 9], [1, 3, 6, 8, 9, 15], [6, 7], [1, 3, 6, 8, 9, 20], [6, 7], [1, 3, 6, 8, 9, 36], [6, 7], [1, 3, 6, 8, 41], [6, 7], [3, 6], [6, 7]]
noncomputable def zy81 : EnvT := ⟨Tryz.prog, zr [(37, zmu), (25, zdb), (134, zfm)]⟩
theorem zh81 : (zy81).Ok := ze ⟨zp1, zds, zi6, trivial⟩
def za81 : Ann := ⟨[], [], [], zv81, []⟩
def zk7 (a0 : za) (a1 : Int) (a2 : ByteArray) : Tr (za × Int) :=
  (.bind (zcz a2) fun v1 =>
  (.bind (zbt a0) fun v2 =>
  (.ite (!v2)
    (.leaf (a0, 2))
    (.guard ((((decide (a1 < 0)) || (decide (a1 ≥ 2))) = false → ((0 : Int) ≤ a1 ∧ (a1 : Int) < 2) ∧ True))
    (.ite (((decide (a1 < 0)) || (decide (a1 ≥ 2))) || (!(a0.Links.On.get a1)))
      (.leaf (a0, 4))
      (.ite (v1.2 != 0)
        (.leaf (a0, v1.2))
        (.ite (v1.1.Kind == 1)
          (.leaf (a0, 3))
          (.guard ((zar a0.Queue).isSome = true)
          (.guard ((Sl.len (.asked ((zar a0.Queue).getD default)) + Sl.len (.asked [(⟨a1, v1.1⟩ : Asked)])) * 88 ≤ 140737488355328)
          (.leaf ({ (a0 : za) with Queue := ((zar a0.Queue).getD default) ++ [(⟨a1, v1.1⟩ : Asked)] }, 0)))))))))))
def zbf (a0 : za) (a1 : Int) (a2 : ByteArray) : Option (za × Int) := (zk7 a0 a1 a2).run
def zr81 : LQ (za × Int × ByteArray) := (LQ.seq (Par.q (Par.ofLP providerL)) (LQ.seq (Par.q intP) (Par.q strP)))
def zu4 : LQ (za × Int) := (LQ.seq (Par.q (Par.ofLP providerL)) (Par.q intP))
def zwu : SpecT := zv 0 zr81 3 [] (fun s => zk7 s.1 s.2.1 s.2.2) default zu4 2 []
theorem z3u : zi Tryz.prog 107 (zwu).spec :=
  zf (A := za81) zh81 Facts.mix Tryz.func107 (c := zc81) (by kernel_rfl) (Lc := 0) trivial zr81 3 8 [] (fun s => zk7 s.1 s.2.1 s.2.2) default zu4 2 [] [.pubB 6] (by decide) (by kernel_rfl) (by rfl) (by decide) (by decide) (by rfl)
    (by rintro ⟨a0, a1, a2⟩; kernel_rfl)
noncomputable def zc82 : Code := Tryz.f63.body.getD .skip
def zv82 : List (List Nat) := [[1, 2, 3, 6], [1, 2, 3, 6, 11], [6, 7], [1, 2, 3, 6, 16], [6, 7], [1, 2, 3, 6, 24], [6, 7], [1, 2, 3, 6, 34], [6, 7], [1, 3, 6, 8, 10], [1, 3, 6, 8, 10, 52], [6, 7], [3, 6, 8, 10], [3, 6, 8, 10, 62], [6, 7], [3, 6], [6, 7]]
noncomputable def zy82 : EnvT := ⟨Tryz.prog, zr [(25, zdb), (79, zt8), (80, zwl)]⟩
theorem zh82 : (zy82).Ok := ze ⟨zds, zyw, z1f, trivial⟩
def za82 : Ann := ⟨[], [], [], zv82, []⟩
def zgh (a0 : za) (a1 : Int) (a2 : Int) : Tr (za × Int) :=
  (.bind (zbt a0) fun v1 =>
  (.ite (!v1)
    (.leaf (a0, 2))
    (.ite ((decide (a1 < 0)) || (decide (a1 ≥ 6)))
      (.leaf (a0, 4))
      (.ite ((decide (a2 < 1)) || (decide (a2 > a0.Height)))
        (.leaf (a0, 2))
        (.guard ((0 : Int) ≤ a1 ∧ (a1 : Int) < 6)
        (.ite (a0.Stake.Validators.Dead.get a1)
          (.leaf (a0, 15))
          (.bind (zgx a0.Stake a1 a2 50) fun v2 =>
          (.ite (v2.2.2 != 0)
            (.leaf (a0, v2.2.2))
            (.bind (zkx v2.1 a1) fun v3 =>
            (.ite (v3.2 != 0)
              (.leaf (a0, v3.2))
              (.leaf ({ (a0 : za) with Stake := v3.1 }, 0))))))))))))
def ziu (a0 : za) (a1 : Int) (a2 : Int) : Option (za × Int) := (zgh a0 a1 a2).run
def zr82 : LQ (za × Int × Int) := (LQ.seq (Par.q (Par.ofLP providerL)) (LQ.seq (Par.q intP) (Par.q intP)))
def zoh : LQ (za × Int) := (LQ.seq (Par.q (Par.ofLP providerL)) (Par.q intP))
def zqd : SpecT := zv 0 zr82 3 [] (fun s => zgh s.1 s.2.1 s.2.2) default zoh 2 []
theorem zx8 : zi Tryz.prog 63 (zqd).spec :=
  zf (A := za82) zh82 Facts.mix Tryz.func63 (c := zc82) (by kernel_rfl) (Lc := 0) trivial zr82 3 5 [] (fun s => zgh s.1 s.2.1 s.2.2) default zoh 2 [] [.pubB 6] (by decide) (by kernel_rfl) (by rfl) (by decide) (by decide) (by rfl)
    (by rintro ⟨a0, a1, a2⟩; kernel_rfl)
noncomputable def zc83 : Code := Tryz.f101.body.getD .skip
def zv83 : List (List Nat) := [[0, 2, 6], [0, 2, 6, 7], [0, 2, 6, 7, 49], [0, 2, 6, 8, 9], [0, 2, 6, 8, 65], [0, 6, 9, 10], [0, 6, 10, 78], []]
noncomputable def zy83 : EnvT := ⟨Tryz.prog, zr [(132, z3d), (28, zms), (133, z19), (102, zek)]⟩
theorem zh83 : (zy83).Ok := ze ⟨zaae, zp0, z5o, zhj, trivial⟩
def za83 : Ann := ⟨[], [], [], zv83, []⟩
def zk8 (a0 : Int) (a1 : Int) (a2 : za) : Tr (za) :=
  (.guard ((0 : Int) ≤ a0 ∧ (a0 : Int) < 2)
  (.guard ((zev (a2.Links.Told.get a0) a2.Set).isSome = true)
  (.ite ((!(a2.Links.On.get a0)) || (((((((zev (a2.Links.Told.get a0) a2.Set).getD default).length : Nat) : Int) == 0) && (!(a2.Links.Fresh.get a0))) && ((((a2.Links.Done.get a0).length : Nat) : Int) == 0)))
    (.leaf a2)
    (.guard ((zbn (⟨1, a2.Height, 0, 0, ((zev (a2.Links.Told.get a0) a2.Set).getD default), a2.Links.Done.get a0⟩ : Packet)).isSome = true)
    (.ite ((((zbn (⟨1, a2.Height, 0, 0, ((zev (a2.Links.Told.get a0) a2.Set).getD default), a2.Links.Done.get a0⟩ : Packet)).getD default).2) != 0)
      (.leaf a2)
      (.bind (zt3 (⟨a2.Links.Said.get a0, a2.Links.Due.get a0, a2.Links.Got.get a0, a2.Links.Closed.get a0⟩ : zeg) (((zbn (⟨1, a2.Height, 0, 0, ((zev (a2.Links.Told.get a0) a2.Set).getD default), a2.Links.Done.get a0⟩ : Packet)).getD default).1) (IntKind.i64.wrap (a1 + 40))) fun v1 =>
      (.ite (v1.2 != 0)
        (.leaf a2)
        (.guard ((zak a2.Set).isSome = true)
        (.leaf ({ (a2 : za) with Links := { (a2.Links : Links) with Told := (a2.Links.Told.set a0 ((zak a2.Set).getD default)), Fresh := (a2.Links.Fresh.set a0 false), Done := (a2.Links.Done.set a0 []), Said := (a2.Links.Said.set a0 v1.1.Said), Due := (a2.Links.Due.set a0 v1.1.Due), Got := (a2.Links.Got.set a0 v1.1.Got), Closed := (a2.Links.Closed.set a0 v1.1.Closed) } }))))))))))
def zjq (a0 : Int) (a1 : Int) (a2 : za) : Option (za) := (zk8 a0 a1 a2).run
def zr83 : LQ (Int × Int × za) := (LQ.skip (LQ.const (.ptr 0 0)) (LQ.seq (Par.q intP) (LQ.seq (Par.q intP) (LP.q providerL))))
def zu5 : LQ (za) := (LP.q providerL)
def zwv : SpecT := zv 1 zr83 3 [.cells 61 97] (fun s => zk8 s.1 s.2.1 s.2.2) default zu5 0 [.cells 61 97]
theorem z3v : zi Tryz.prog 101 (zwv).spec :=
  zf (A := za83) zh83 Facts.mix Tryz.func101 (c := zc83) (by kernel_rfl) (Lc := 1) trivial zr83 3 4 [.cells 61 97] (fun s => zk8 s.1 s.2.1 s.2.2) default zu5 0 [.cells 61 97] [.pubN 0] (by decide) (by kernel_rfl) (by rfl) (by decide) (by decide) (by rfl)
    (by rintro ⟨a0, a1, a2⟩; kernel_rfl)
noncomputable def zc84 : Code := Tryz.f152.body.getD .skip
def zv84 : List (List Nat) := [[0], [2]]
noncomputable def zy84 : EnvT := ⟨Tryz.prog, zr []⟩
theorem zh84 : (zy84).Ok := ze trivial
def za84 : Ann := ⟨[], [], [], zv84, []⟩
def zk9 (a0 : Int) : Tr (Bool) :=
  (.leaf (a0 != a0))
def zgr (a0 : Int) : Option (Bool) := (zk9 a0).run
def zr84 : LQ (Int) := (Par.q intP)
def zu6 : LQ (Bool) := (Par.q boolP)
def zww : SpecT := zv 0 zr84 1 [] (fun s => zk9 s) default zu6 1 []
theorem z3w : zi Tryz.prog 152 (zww).spec :=
  zf (A := za84) zh84 Facts.mix Tryz.func152 (c := zc84) (by kernel_rfl) (Lc := 0) trivial zr84 1 2 [] (fun s => zk9 s) default zu6 1 [] [] (by decide) (by kernel_rfl) (by rfl) (by decide) (by decide) (by rfl)
    (by rintro a0; kernel_rfl)
noncomputable def zc85 : Code := Tryz.f140.body.getD .skip
def zv85 : List (List Nat) := [[0, 1], [4]]
noncomputable def zy85 : EnvT := ⟨Tryz.prog, zr [(152, zww)]⟩
theorem zh85 : (zy85).Ok := ze ⟨z3w, trivial⟩
def za85 : Ann := ⟨[], [], [], zv85, []⟩
def zm1 (a0 : Int) (a1 : Int) : Tr (Bool) :=
  (.bind (zgr a0) fun v1 =>
  (.guard ((v1 = true → ((zgr a1).isSome = true) ∧ True))
  (.leaf ((v1 && (!((zgr a1).getD default))) || (decide (a0 < a1))))))
def zqe (a0 : Int) (a1 : Int) : Option (Bool) := (zm1 a0 a1).run
def zr85 : LQ (Int × Int) := (LQ.seq (Par.q intP) (Par.q intP))
def zwx : LQ (Bool) := (Par.q boolP)
def zzd : SpecT := zv 0 zr85 2 [] (fun s => zm1 s.1 s.2) default zwx 1 []
theorem z50 : zi Tryz.prog 140 (zzd).spec :=
  zf (A := za85) zh85 Facts.mix Tryz.func140 (c := zc85) (by kernel_rfl) (Lc := 0) trivial zr85 2 2 [] (fun s => zm1 s.1 s.2) default zwx 1 [] [] (by decide) (by kernel_rfl) (by rfl) (by decide) (by decide) (by rfl)
    (by rintro ⟨a0, a1⟩; kernel_rfl)
noncomputable def zc86 : Code := Tryz.f141.body.getD .skip
def zv86 : List (List Nat) := [[0], [2]]
noncomputable def zy86 : EnvT := ⟨Tryz.prog, zr []⟩
theorem zh86 : (zy86).Ok := ze trivial
def za86 : Ann := ⟨[], [], [], zv86, []⟩
def zhb (a0 : Int) : Tr (Bool) :=
  (.leaf (a0 != a0))
def zbw (a0 : Int) : Option (Bool) := (zhb a0).run
def zr86 : LQ (Int) := (Par.q intP)
def zqf : LQ (Bool) := (Par.q boolP)
def zrq : SpecT := zv 0 zr86 1 [] (fun s => zhb s) default zqf 1 []
theorem zz1 : zi Tryz.prog 141 (zrq).spec :=
  zf (A := za86) zh86 Facts.mix Tryz.func141 (c := zc86) (by kernel_rfl) (Lc := 0) trivial zr86 1 2 [] (fun s => zhb s) default zqf 1 [] [] (by decide) (by kernel_rfl) (by rfl) (by decide) (by decide) (by rfl)
    (by rintro a0; kernel_rfl)
noncomputable def zc87 : Code := Tryz.f124.body.getD .skip
def zv87 : List (List Nat) := [[0, 1], [0, 1, 6], [0, 1, 6, 7, 8], [0, 1, 6, 7, 8, 15], [0, 1, 6, 7, 8, 9], [0, 1, 6, 7, 8, 9, 27], [0, 1, 6, 7, 8], [0, 1, 6, 7, 8], [4, 5]]
noncomputable def zy87 : EnvT := ⟨Tryz.prog, zr [(140, zzd), (141, zrq)]⟩
theorem zh87 : (zy87).Ok := ze ⟨z50, zz1, trivial⟩
def zbx (x0 : (List Int)) (x1 : Int) (x2 : Int) (x3 : Int) (x4 : Int) : Tr (((List Int) × Int × Int × Int × Int) ⊕ ((List Int) × Int × Int × Int)) :=
  (.ite (decide (x3 < x4))
    (.guard ((0 : Int) ≤ 1)
    (.guard ((0 : Int) ≤ (IntKind.i64.wrap (Int.fdiv (IntKind.u64.wrap (IntKind.i64.wrap (x3 + x4))) (2 ^ 1))) ∧ (IntKind.i64.wrap (Int.fdiv (IntKind.u64.wrap (IntKind.i64.wrap (x3 + x4))) (2 ^ 1))) < ((Sl.len (.ints x0) : Nat) : Int))
    (.bind (zqe (x0.getD ((IntKind.i64.wrap (Int.fdiv (IntKind.u64.wrap (IntKind.i64.wrap (x3 + x4))) (2 ^ 1))).toNat) 0) x1) fun v1 =>
    (.ite (v1)
      (.leaf (.inl (x0, x1, x2, IntKind.i64.wrap ((IntKind.i64.wrap (Int.fdiv (IntKind.u64.wrap (IntKind.i64.wrap (x3 + x4))) (2 ^ 1))) + 1), x4)))
      (.leaf (.inl (x0, x1, x2, x3, IntKind.i64.wrap (Int.fdiv (IntKind.u64.wrap (IntKind.i64.wrap (x3 + x4))) (2 ^ 1)))))))))
    (.leaf (.inr (x0, x1, x2, x3))))
def zgs (x0 : (List Int)) (x1 : Int) (x2 : Int) (x3 : Int) (x4 : Int) : Option ((List Int) × Int × Int × Int) := zeh (fun s : (List Int) × Int × Int × Int × Int => (zbx s.1 s.2.1 s.2.2.1 s.2.2.2.1 s.2.2.2.2).run) (x0, x1, x2, x3, x4)
def za6o : Ann := ⟨[], [], [], zv87, []⟩
def za6p : EndD ((List Int) × Int × Int × Int × Int) := ⟨(LQ.seq (Par.q zhg) (LQ.seq (Par.q intP) (LQ.seq (Par.q intP) (LQ.seq (Par.q intP) (Par.q intP))))), ⟨[0, 1, 6, 7, 8], [.pub 0, .nilsl 0 (.ints [])]⟩, []⟩
def zata : EndD ((List Int) × Int × Int × Int) := ⟨(LQ.seq (Par.q zhg) (LQ.seq (Par.q intP) (LQ.seq (Par.q intP) (Par.q intP)))), ⟨[0, 1, 6, 7], [.pub 0, .nilsl 0 (.ints [])]⟩, []⟩
def zaw4 : St → Option LR := L1 54 2 0 za6p (.exit 0) zata (fun s => zbx s.1 s.2.1 s.2.2.1 s.2.2.2.1 s.2.2.2.2)
theorem za6q : zq (zy87).env 0 (sub zc87 [0, 0, 1, 1, 1]) zaw4 :=
  ziy (A := za6o) zh87 Facts.mix trivial (k := zci (sub zc87 [0, 0, 1, 1, 1])) (by kernel_rfl) rfl (by rintro ⟨x0, x1, x2, x3, x4⟩; kernel_rfl)
def za87 : Ann := ⟨[([0, 0, 1, 1, 1], zaw4)], [], [], zv87, []⟩
def zcv (a0 : (List Int)) (a1 : Int) : Tr (Int × Bool) :=
  (.bind (zgs a0 a1 ((a0.length : Nat) : Int) 0 ((a0.length : Nat) : Int)) fun v2 =>
  (.guard (((decide (v2.2.2.2 < v2.2.2.1)) = true → ((0 : Int) ≤ v2.2.2.2 ∧ v2.2.2.2 < ((Sl.len (.ints v2.1) : Nat) : Int)) ∧ True))
  (.guard ((((v2.1.getD v2.2.2.2.toNat 0) == v2.2.1) = false → ((decide (v2.2.2.2 < v2.2.2.1)) = true → ((0 : Int) ≤ v2.2.2.2 ∧ v2.2.2.2 < ((Sl.len (.ints v2.1) : Nat) : Int)) ∧ True)))
  (.guard ((((v2.1.getD v2.2.2.2.toNat 0) == v2.2.1) = false → ((decide (v2.2.2.2 < v2.2.2.1)) = true → ((zbw (v2.1.getD v2.2.2.2.toNat 0)).isSome = true) ∧ True)))
  (.guard ((((zbw (v2.1.getD v2.2.2.2.toNat 0)).getD default) = true → (((v2.1.getD v2.2.2.2.toNat 0) == v2.2.1) = false → ((decide (v2.2.2.2 < v2.2.2.1)) = true → ((zbw v2.2.1).isSome = true) ∧ True))))
  (.leaf (v2.2.2.2, (decide (v2.2.2.2 < v2.2.2.1)) && (((v2.1.getD v2.2.2.2.toNat 0) == v2.2.1) || (((zbw (v2.1.getD v2.2.2.2.toNat 0)).getD default) && ((zbw v2.2.1).getD default))))))))))
def zt (a0 : (List Int)) (a1 : Int) : Option (Int × Bool) := (zcv a0 a1).run
def zr87 : LQ ((List Int) × Int) := (LQ.seq (Par.q zhg) (Par.q intP))
def zio : LQ (Int × Bool) := (LQ.seq (Par.q intP) (Par.q boolP))
def zjd : SpecT := zv 0 zr87 2 [] (fun s => zcv s.1 s.2) default zio 2 []
theorem zqq : zi Tryz.prog 124 (zjd).spec :=
  zf (A := za87) zh87 Facts.mix Tryz.func124 (c := zc87) (by kernel_rfl) (Lc := 0) ⟨za6q, trivial⟩ zr87 2 2 [] (fun s => zcv s.1 s.2) default zio 2 [] [] (by decide) (by kernel_rfl) (by rfl) (by decide) (by decide) (by rfl)
    (by rintro ⟨a0, a1⟩; kernel_rfl)
noncomputable def zc88 : Code := Tryz.f98.body.getD .skip
def zv88 : List (List Nat) := [[0, 3], [0, 3, 5], [0, 3, 5, 6], [0, 3, 5, 6, 28], [0, 3, 5, 6, 28, 29], [], [0, 3, 5, 6, 28, 44], [0, 3, 5, 6, 48], [0, 3, 6, 7, 8], [0, 3, 6, 7, 62], [4], [0, 3, 6], [3, 6], [3, 6, 9, 10], [3, 6, 9, 93], [], [0, 3, 5, 6, 108], [0, 3, 6, 112], [0, 3], [], [4]]
noncomputable def zy88 : EnvT := ⟨Tryz.prog, zr [(121, zp3), (122, z27), (123, z3c), (124, zjd), (126, zko), (125, F_slices_Insert_int), (79, zt8), (80, zwl)]⟩
theorem zh88 : (zy88).Ok := ze ⟨zuw, zaac, zaad, zqq, zpx, zx3, zyw, z1f, trivial⟩
def za88 : Ann := ⟨[], [], [], zv88, []⟩
def zla (a0 : Asked) (a1 : za) : Tr (Bool × za) :=
  (.guard ((0 : Int) ≤ a0.P.V ∧ (a0.P.V : Int) < 6)
  (.guard ((0 : Int) ≤ a0.C ∧ (a0.C : Int) < 2)
  (.ite (a0.P.Kind == 2)
    (.guard ((zgl a1.Stake a0.C a0.P.Id).isSome = true)
    (.leaf (true, { (a1 : za) with Stake := ((zgl a1.Stake a0.C a0.P.Id).getD default) })))
    (.ite (a0.P.Kind == 3)
      (.ite (!(a1.Stake.Validators.Jailed.get a0.P.V))
        (.guard ((100 : Int) ≠ 0)
        (.guard ((zhz a1.Meter (if (IntKind.i64.wrap (Int.tdiv (a1.Stake.Validators.Tokens.get a0.P.V) 100)) > 1 then (IntKind.i64.wrap (Int.tdiv (a1.Stake.Validators.Tokens.get a0.P.V) 100)) else 1)).isSome = true)
        (.ite (!(((zhz a1.Meter (if (IntKind.i64.wrap (Int.tdiv (a1.Stake.Validators.Tokens.get a0.P.V) 100)) > 1 then (IntKind.i64.wrap (Int.tdiv (a1.Stake.Validators.Tokens.get a0.P.V) 100)) else 1)).getD default).2))
          (.leaf (false, a1))
          (.guard ((zkw a1.Stake a0.P.V).isSome = true)
          (.guard ((zt (a1.Links.Done.get a0.C) a0.P.V).isSome = true)
          (.ite (!(((zt (a1.Links.Done.get a0.C) a0.P.V).getD default).2))
            (.guard ((z7 (a1.Links.Done.get a0.C)).isSome = true)
            (.guard ((zca ((z7 (a1.Links.Done.get a0.C)).getD default) (((zt (a1.Links.Done.get a0.C) a0.P.V).getD default).1) [a0.P.V]).isSome = true)
            (.leaf (true, { (a1 : za) with Stake := (((zkw a1.Stake a0.P.V).getD default).1), Links := { (a1.Links : Links) with Done := (a1.Links.Done.set a0.C ((zca ((z7 (a1.Links.Done.get a0.C)).getD default) (((zt (a1.Links.Done.get a0.C) a0.P.V).getD default).1) [a0.P.V]).getD default)) }, Meter := (((zhz a1.Meter (if (IntKind.i64.wrap (Int.tdiv (a1.Stake.Validators.Tokens.get a0.P.V) 100)) > 1 then (IntKind.i64.wrap (Int.tdiv (a1.Stake.Validators.Tokens.get a0.P.V) 100)) else 1)).getD default).1) }))))
            (.leaf (true, { (a1 : za) with Stake := (((zkw a1.Stake a0.P.V).getD default).1), Meter := (((zhz a1.Meter (if (IntKind.i64.wrap (Int.tdiv (a1.Stake.Validators.Tokens.get a0.P.V) 100)) > 1 then (IntKind.i64.wrap (Int.tdiv (a1.Stake.Validators.Tokens.get a0.P.V) 100)) else 1)).getD default).1) }))))))))
        (.guard ((zt (a1.Links.Done.get a0.C) a0.P.V).isSome = true)
        (.ite (!(((zt (a1.Links.Done.get a0.C) a0.P.V).getD default).2))
          (.guard ((z7 (a1.Links.Done.get a0.C)).isSome = true)
          (.guard ((zca ((z7 (a1.Links.Done.get a0.C)).getD default) (((zt (a1.Links.Done.get a0.C) a0.P.V).getD default).1) [a0.P.V]).isSome = true)
          (.leaf (true, { (a1 : za) with Links := { (a1.Links : Links) with Done := (a1.Links.Done.set a0.C ((zca ((z7 (a1.Links.Done.get a0.C)).getD default) (((zt (a1.Links.Done.get a0.C) a0.P.V).getD default).1) [a0.P.V]).getD default)) } }))))
          (.leaf (true, a1)))))
      (.ite (a0.P.Kind == 4)
        (.ite (!(a1.Stake.Validators.Dead.get a0.P.V))
          (.guard ((zgx a1.Stake a0.P.V (if (a1.Links.Base.get a0.C) > a0.P.Id then (a1.Links.Base.get a0.C) else a0.P.Id) 50).isSome = true)
          (.guard ((zkx (((zgx a1.Stake a0.P.V (if (a1.Links.Base.get a0.C) > a0.P.Id then (a1.Links.Base.get a0.C) else a0.P.Id) 50).getD default).1) a0.P.V).isSome = true)
          (.leaf (true, { (a1 : za) with Stake := (((zkx (((zgx a1.Stake a0.P.V (if (a1.Links.Base.get a0.C) > a0.P.Id then (a1.Links.Base.get a0.C) else a0.P.Id) 50).getD default).1) a0.P.V).getD default).1) }))))
          (.leaf (true, a1)))
        (.leaf (true, a1)))))))
def zn8 (a0 : Asked) (a1 : za) : Option (Bool × za) := (zla a0 a1).run
def zr88 : LQ (Asked × za) := (LQ.skip (LQ.const (.ptr 0 0)) (LQ.seq (Par.q (Par.ofLP zajw)) (LP.q providerL)))
def zu7 : LQ (Bool × za) := (LQ.seq (Par.q boolP) (LP.q providerL))
def zwy : SpecT := zv 1 zr88 2 [.cells 61 97] (fun s => zla s.1 s.2) default zu7 1 [.cells 61 97]
theorem z3x : zi Tryz.prog 98 (zwy).spec :=
  zf (A := za88) zh88 Facts.mix Tryz.func98 (c := zc88) (by kernel_rfl) (Lc := 1) trivial zr88 2 9 [.cells 61 97] (fun s => zla s.1 s.2) default zu7 1 [.cells 61 97] [.pubN 0] (by decide) (by kernel_rfl) (by rfl) (by decide) (by decide) (by rfl)
    (by rintro ⟨a0, a1⟩; kernel_rfl)
noncomputable def zc89 : Code := Tryz.f81.body.getD .skip
def zv89 : List (List Nat) := [[1, 2, 4], [1, 2, 4, 27], [4, 5, 6], [1, 2, 4], [1, 2, 4], [1, 2, 4, 7], [1, 2, 4, 7, 8], [1, 2, 4, 7, 8, 44, 45, 46], [1, 2, 4, 7, 8, 44, 45, 46, 47], [1, 2, 4, 7, 8, 10, 44, 45, 46], [1, 2, 4, 7, 8, 10, 44, 45, 46, 58], [1, 2, 4, 7, 8, 10, 44, 45, 46], [1, 2, 4, 7, 8, 44, 45, 46], [1, 2, 4, 7, 8, 44, 45, 46], [1, 2, 4], [1, 2, 4, 11, 12, 13], [1, 2, 4, 11, 12, 13, 78], [4, 5, 6], [1, 2, 4, 12], [1, 2, 4, 12], [1, 2, 4, 12, 87], [1, 2, 4, 12, 87, 88], [1, 2, 4, 12, 14, 87], [1, 2, 4, 12, 87], [1, 2, 4, 12, 87], [4, 5, 6]]
noncomputable def zy89 : EnvT := ⟨Tryz.prog, zr [(25, zdb), (34, z5v), (97, z25), (98, zwy), (99, z5t), (100, z5w), (101, zwv)]⟩
theorem zh89 : (zy89).Ok := ze ⟨zds, zacd, zaab, z3x, zacc, zace, z3v, trivial⟩
def zfy (x0 : Int) (x1 : (List Asked)) (x2 : Int) (x3 : Int) (x4 : za) (x5 : za) (x6 : (A2 Bool)) (x7 : (List Asked)) : Tr ((Int × (List Asked) × Int × Int × za × za × (A2 Bool) × (List Asked)) ⊕ (Int × za × za × (List Asked))) :=
  (.ite (decide (x3 < x2))
    (.guard ((0 : Int) ≤ x3 ∧ x3 < ((Sl.len (.asked x1) : Nat) : Int))
    (.guard ((0 : Int) ≤ ((x1.getD x3.toNat default).C) ∧ (((x1.getD x3.toNat default).C) : Int) < 2)
    (.ite (x6.get ((x1.getD x3.toNat default).C))
      (.ite ((true : Bool))
        (.ite ((true : Bool))
          (.ite ((true : Bool))
            (.guard ((0 : Int) ≤ ((x1.getD x3.toNat default).C) ∧ (((x1.getD x3.toNat default).C) : Int) < 2)
            (.guard ((Sl.len (.asked x7) + Sl.len (.asked [(x1.getD x3.toNat default)])) * 88 ≤ 140737488355328)
            (.leaf (.inl (x0, x1, x2, IntKind.i64.wrap (x3 + 1), x4, x5, (x6.set ((x1.getD x3.toNat default).C) true), x7 ++ [(x1.getD x3.toNat default)])))))
            (.leaf (.inl (x0, x1, x2, IntKind.i64.wrap (x3 + 1), x4, x5, x6, x7))))
          .fail)
        .fail)
      (.bind (zn8 (x1.getD x3.toNat default) x4) fun v2 =>
      (.ite ((false : Bool) || (!v2.1))
        (.guard ((0 : Int) ≤ ((x1.getD x3.toNat default).C) ∧ (((x1.getD x3.toNat default).C) : Int) < 2)
        (.guard ((Sl.len (.asked x7) + Sl.len (.asked [(x1.getD x3.toNat default)])) * 88 ≤ 140737488355328)
        (.leaf (.inl (x0, x1, x2, IntKind.i64.wrap (x3 + 1), v2.2, x5, (x6.set ((x1.getD x3.toNat default).C) true), x7 ++ [(x1.getD x3.toNat default)])))))
        (.leaf (.inl (x0, x1, x2, IntKind.i64.wrap (x3 + 1), v2.2, x5, x6, x7))))))))
    (.leaf (.inr (x0, x4, x5, x7))))
def zhc (x0 : Int) (x1 : (List Asked)) (x2 : Int) (x3 : Int) (x4 : za) (x5 : za) (x6 : (A2 Bool)) (x7 : (List Asked)) : Option (Int × za × za × (List Asked)) := zeh (fun s : Int × (List Asked) × Int × Int × za × za × (A2 Bool) × (List Asked) => (zfy s.1 s.2.1 s.2.2.1 s.2.2.2.1 s.2.2.2.2.1 s.2.2.2.2.2.1 s.2.2.2.2.2.2.1 s.2.2.2.2.2.2.2).run) (x0, x1, x2, x3, x4, x5, x6, x7)
def za6u : Ann := ⟨[], [], [], zv89, [(23, [9700002])]⟩
def za6v : EndD (Int × (List Asked) × Int × Int × za × za × (A2 Bool) × (List Asked)) := ⟨(LQ.seq (Par.q intP) (LQ.skip (LQ.const (.ptr 0 0)) (LQ.skip (LQ.const (.ptr 1 0)) (LQ.skip (LQ.const (.own 3)) (LQ.skip (LQ.const (.ptr 2 0)) (LQ.seq (Par.q zfl) (LQ.seq (Par.q intP) (LQ.seq (Par.q intP) (LQ.seq (LP.q providerL) (LQ.seq (LP.q providerL) (LQ.seq (LP.q (a2L (LP.one boolP))) (Par.q zfl)))))))))))), ⟨[1, 2, 4, 7, 8, 44, 45, 46], [.nilown 7 101 (.asked []), .pub 44, .nilsl 44 (.asked [])]⟩, [.cells 61 97, .cells 61 97, .cells 170 2, .rows 101]⟩
def zatb : EndD (Int × za × za × (List Asked)) := ⟨(LQ.seq (Par.q intP) (LQ.skip (LQ.const (.ptr 0 0)) (LQ.skip (LQ.const (.ptr 1 0)) (LQ.skip (LQ.const (.own 2)) (LQ.seq (LP.q providerL) (LQ.seq (LP.q providerL) (Par.q zfl))))))), ⟨[1, 2, 4, 7], [.nilown 7 101 (.asked [])]⟩, [.cells 61 97, .cells 61 97, .rows 101]⟩
def zaw6 : St → Option LR := L1 96 9 0 za6v (.exit 0) zatb (fun s => zfy s.1 s.2.1 s.2.2.1 s.2.2.2.1 s.2.2.2.2.1 s.2.2.2.2.2.1 s.2.2.2.2.2.2.1 s.2.2.2.2.2.2.2)
theorem za6w : zq (zy89).env 0 (sub zc89 [0, 1, 0, 1, 1, 1, 1, 1, 1]) zaw6 :=
  ziy (A := za6u) zh89 Facts.mix trivial (k := zci (sub zc89 [0, 1, 0, 1, 1, 1, 1, 1, 1])) (by kernel_rfl) rfl (by rintro ⟨x0, x1, x2, x3, x4, x5, x6, x7⟩; kernel_rfl)
def zfz (x0 : Int) (x1 : (List Int)) (x2 : Int) (x3 : za) (x4 : za) : Tr ((Int × (List Int) × Int × za × za) ⊕ ((List Int) × za × za)) :=
  (.ite (decide (x2 < 2))
    (.bind (zjq x2 x0 x3) fun v6 =>
    (.leaf (.inl (x0, x1, IntKind.i64.wrap (x2 + 1), v6, x4))))
    (.leaf (.inr (x1, x3, x4))))
def zlb (x0 : Int) (x1 : (List Int)) (x2 : Int) (x3 : za) (x4 : za) : Option ((List Int) × za × za) := zeh (fun s : Int × (List Int) × Int × za × za => (zfz s.1 s.2.1 s.2.2.1 s.2.2.2.1 s.2.2.2.2).run) (x0, x1, x2, x3, x4)
def za6x : Ann := ⟨[], [], [], zv89, [(23, [9700002])]⟩
def za6y : EndD (Int × (List Int) × Int × za × za) := ⟨(LQ.seq (Par.q intP) (LQ.skip (LQ.const (.ptr 0 0)) (LQ.skip (LQ.const (.ptr 1 0)) (LQ.seq (Par.q zhg) (LQ.seq (Par.q intP) (LQ.seq (LP.q providerL) (LP.q providerL))))))), ⟨[1, 2, 4, 12, 87], [.pubC 2 96, .pub 12, .nilsl 12 (.ints [])]⟩, [.cells 61 97, .cells 61 97]⟩
def zatc : EndD ((List Int) × za × za) := ⟨(LQ.skip (LQ.const (.ptr 0 0)) (LQ.skip (LQ.const (.ptr 1 0)) (LQ.seq (Par.q zhg) (LQ.seq (LP.q providerL) (LP.q providerL))))), ⟨[2, 4, 12], [.pubC 2 96, .pub 12, .nilsl 12 (.ints [])]⟩, [.cells 61 97, .cells 61 97]⟩
def zaw7 : St → Option LR := L1 96 9 0 za6y (.exit 2) zatc (fun s => zfz s.1 s.2.1 s.2.2.1 s.2.2.2.1 s.2.2.2.2)
theorem za6z : zq (zy89).env 0 (sub zc89 [0, 1, 0, 1, 1, 1, 1, 1, 1, 1, 1, 1, 1, 1, 1]) zaw7 :=
  ziy (A := za6x) zh89 Facts.mix trivial (k := zci (sub zc89 [0, 1, 0, 1, 1, 1, 1, 1, 1, 1, 1, 1, 1, 1, 1])) (by kernel_rfl) rfl (by rintro ⟨x0, x1, x2, x3, x4⟩; kernel_rfl)
def za89 : Ann := ⟨[([0, 1, 0, 1, 1, 1, 1, 1, 1], zaw6), ([0, 1, 0, 1, 1, 1, 1, 1, 1, 1, 1, 1, 1, 1, 1], zaw7)], [], [], zv89, [(23, [9700002])]⟩
def zm2 (a0 : za) (a1 : Int) : Tr (za × (List Int) × Int) :=
  (.bind (zbt a0) fun v1 =>
  (.ite (((!v1) || (decide (a1 < a0.Time))) || (decide (a1 > 1099511627776)))
    (.leaf (a0, [], 2))
    (.guard ((znk a0.Set).isSome = true)
    (.guard ((zo7 a0.Meter ((znk a0.Set).getD default) a1).isSome = true)
    (.bind (zhc a1 a0.Queue ((a0.Queue.length : Nat) : Int) 0 ({ (a0 : za) with Height := IntKind.i64.wrap (a0.Height + 1), Time := a1, Meter := ((zo7 a0.Meter ((znk a0.Set).getD default) a1).getD default) }) (default : za) (⟨false, false⟩ : (A2 Bool)) []) fun v3 =>
    (.bind (zre v3.2.1.Stake v3.1) fun v4 =>
    (.ite (v4.2.2 != 0)
      (.leaf ({ (v3.2.1 : za) with Queue := v3.2.2.2 }, [], v4.2.2))
      (.bind (zwn v4.1) fun v5 =>
      (.bind (zlb v3.1 v4.2.1 0 ({ (v3.2.1 : za) with Stake := v4.1, Set := v5, Queue := v3.2.2.2 }) v3.2.2.1) fun v7 =>
      (.leaf (v7.2.1, v7.1, 0)))))))))))
def zdd (a0 : za) (a1 : Int) : Option (za × (List Int) × Int) := (zm2 a0 a1).run
def zr89 : LQ (za × Int) := (LQ.seq (Par.q (Par.ofLP providerL)) (Par.q intP))
def zwz : LQ (za × (List Int) × Int) := (LQ.seq (Par.q (Par.ofLP providerL)) (LQ.seq (Par.q zhg) (Par.q intP)))
def zze : SpecT := zv 0 zr89 2 [] (fun s => zm2 s.1 s.2) default zwz 3 []
theorem z51 : zi Tryz.prog 81 (zze).spec :=
  zf (A := za89) zh89 Facts.mix Tryz.func81 (c := zc89) (by kernel_rfl) (Lc := 0) ⟨za6w, za6z, trivial⟩ zr89 2 9 [] (fun s => zm2 s.1 s.2) default zwz 3 [] [.pubB 4, .pub 5] (by decide) (by kernel_rfl) (by rfl) (by decide) (by decide) (by rfl)
    (by rintro ⟨a0, a1⟩; kernel_rfl)
end
end Go.Proofs.YtmakmlnfbdablaaGreat.Ab
