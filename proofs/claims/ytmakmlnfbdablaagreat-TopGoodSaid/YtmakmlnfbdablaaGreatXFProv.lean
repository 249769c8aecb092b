/-
  The functions, each by its tree.
-/
import Derived.Test.YtmakmlnfbdablaaGreatXAbClear
import Derived.Test.YtmakmlnfbdablaaGreatXAbFun
import Derived.Test.YtmakmlnfbdablaaGreatXAbInsert
import Derived.Test.YtmakmlnfbdablaaGreatXAbStructs
import Derived.Test.YtmakmlnfbdablaaGreatXFBank
import Derived.Test.YtmakmlnfbdablaaGreatXFCodec
import Derived.Test.YtmakmlnfbdablaaGreatXFLine
import Derived.Test.YtmakmlnfbdablaaGreatXFStakeA
import Derived.Test.YtmakmlnfbdablaaGreatXFStakeB
import Derived.Test.YtmakmlnfbdablaaGreatXFacts
namespace Go.Proofs.YtmakmlnfbdablaaGreat.Ab
open Go Go.RowKit
set_option maxRecDepth 100000
set_option linter.unusedVariables false
set_option linter.unusedSimpArgs false
noncomputable section
noncomputable def zc68 : Code := Tryz.f31.body.getD .skip
def zv68 : List (List Nat) := [[0], [0]]
noncomputable def zy68 : EnvT := ⟨Tryz.prog, zq [(66, z4i), (67, zym)]⟩
theorem zh68 : (zy68).Ok := zc ⟨zaaq, z14, trivial⟩
def za68 : Ann := ⟨[], [], [], zv68, []⟩
def zl9  : Tr (za) :=
  (.bind (zu8) fun v1 =>
  (.bind (zqh 0 0) fun v2 =>
  (.leaf (⟨0, 0, v1, [], (default : Links), v2, []⟩ : za))))
def zpi  : Option (za) := (zl9 ).run
def zr68 : LQ (Unit) := LQ.nil
def zvh : LQ (za) := (Par.q (Par.ofLP providerL))
def zxw : SpecT := zt 0 zr68 0 [] (fun s => zl9 ) default zvh 1 []
theorem z4o : zg Tryz.prog 31 (zxw).spec :=
  zd (A := za68) zh68 Facts.mix Tryz.func31 (c := zc68) (by kernel_rfl) (Lc := 0) trivial zr68 0 3 [] (fun s => zl9 ) default zvh 1 [] [.pubB 0] (by decide) (by kernel_rfl) (by rfl) (by decide) (by decide) (by rfl)
    (by rintro _; kernel_rfl)
noncomputable def zc69 : Code := Tryz.f56.body.getD .skip
def zv69 : List (List Nat) := [[0], [0, 5, 6, 7], [0, 5, 6, 7, 8], [0, 3, 4, 5, 6, 7], [0, 5, 6, 7, 44], [2], [0, 5, 6, 7], [2]]
noncomputable def zy69 : EnvT := ⟨Tryz.prog, zq []⟩
theorem zh69 : (zy69).Ok := zc trivial
def zhr (x0 : (List Power)) (x1 : (List Power)) (x2 : Int) (x3 : Int) : Tr (((List Power) × (List Power) × Int × Int) ⊕ ((Bool) ⊕ (Unit))) :=
  (.ite (decide (x3 < x2))
    (.guard ((0 : Int) ≤ x3 ∧ x3 < ((Sl.len (.powers x1) : Nat) : Int))
    (.guard (((decide (x3 > 0)) = true → (((decide (((x1.getD x3.toNat default).V) < 0)) || (decide (((x1.getD x3.toNat default).V) ≥ 6))) = false → ((0 : Int) ≤ (IntKind.i64.wrap (x3 - 1)) ∧ (IntKind.i64.wrap (x3 - 1)) < ((Sl.len (.powers x0) : Nat) : Int)) ∧ True)))
    (.ite (((((decide (((x1.getD x3.toNat default).V) < 0)) || (decide (((x1.getD x3.toNat default).V) ≥ 6))) || ((decide (x3 > 0)) && (decide (((x0.getD ((IntKind.i64.wrap (x3 - 1)).toNat) default).V) ≥ ((x1.getD x3.toNat default).V))))) || (decide (((x1.getD x3.toNat default).N) < 1))) || (decide (((x1.getD x3.toNat default).N) > 1125899906842624)))
      (.leaf (.inr (.inl false)))
      (.leaf (.inl (x0, x1, x2, IntKind.i64.wrap (x3 + 1)))))))
    (.leaf (.inr (.inr ()))))
def zqx (x0 : (List Power)) (x1 : (List Power)) (x2 : Int) (x3 : Int) : Option ((Bool) ⊕ (Unit)) := zel (fun s : (List Power) × (List Power) × Int × Int => (zhr s.1 s.2.1 s.2.2.1 s.2.2.2).run) (x0, x1, x2, x3)
def za0w : Ann := ⟨[], [], [], zv69, []⟩
def za0x : EndD ((List Power) × (List Power) × Int × Int) := ⟨(LQ.seq (Par.q zo) (LQ.seq (Par.q zo) (LQ.seq (Par.q intP) (Par.q intP)))), ⟨[0, 5, 6, 7], [.pub 0, .nilsl 0 (.powers []), .pub 5, .nilsl 5 (.powers [])]⟩, []⟩
def zaqb : EndD (Bool) := ⟨(Par.q boolP), ⟨[2], []⟩, []⟩
def zaqc : EndD (Unit) := ⟨LQ.nil, ⟨[], []⟩, []⟩
def zatx : St → Option LR := L2 46 3 0 za0x .ret zaqb (.exit 0) zaqc (fun s => zhr s.1 s.2.1 s.2.2.1 s.2.2.2)
theorem za0y : zu (zy69).env 0 (sub zc69 [0, 1, 0, 1]) zatx :=
  zra (A := za0w) zh69 Facts.mix trivial (k := zcw (sub zc69 [0, 1, 0, 1])) (by kernel_rfl) rfl rfl (by rintro ⟨x0, x1, x2, x3⟩; kernel_rfl)
def za69 : Ann := ⟨[([0, 1, 0, 1], zatx)], [], [], zv69, []⟩
def zma (a0 : (List Power)) : Tr (Bool) :=
  (.two (zqx a0 a0 ((a0.length : Nat) : Int) 0) (fun v1 =>
    (.leaf v1)) (fun v2 =>
    (.leaf true)))
def zdu (a0 : (List Power)) : Option (Bool) := (zma a0).run
def zr69 : LQ ((List Power)) := (Par.q zo)
def zvi : LQ (Bool) := (Par.q boolP)
def zxx : SpecT := zt 0 zr69 1 [] (fun s => zma s) default zvi 1 []
theorem z4p : zg Tryz.prog 56 (zxx).spec :=
  zd (A := za69) zh69 Facts.mix Tryz.func56 (c := zc69) (by kernel_rfl) (Lc := 0) ⟨za0y, trivial⟩ zr69 1 3 [] (fun s => zma s) default zvi 1 [] [] (by decide) (by kernel_rfl) (by rfl) (by decide) (by decide) (by rfl)
    (by rintro a0; kernel_rfl)
noncomputable def zc70 : Code := Tryz.f58.body.getD .skip
def zv70 : List (List Nat) := [[1, 2], [3]]
noncomputable def zy70 : EnvT := ⟨Tryz.prog, zq [(55, zms)]⟩
theorem zh70 : (zy70).Ok := zc ⟨zog, trivial⟩
def za70 : Ann := ⟨[], [], [], zv70, []⟩
def zhs (a0 : Asked) (a1 : za) : Tr (Bool × za) :=
  (.guard ((((decide (a0.C < 0)) || (decide (a0.C ≥ 2))) = false → ((0 : Int) ≤ a0.C ∧ (a0.C : Int) < 2) ∧ True))
  (.guard (((((decide (a0.C < 0)) || (decide (a0.C ≥ 2))) || (!(a1.Links.On.get a0.C))) = false → ((zfs a0.P).isSome = true) ∧ True))
  (.leaf (((((decide (a0.C < 0)) || (decide (a0.C ≥ 2))) || (!(a1.Links.On.get a0.C))) || (((zfs a0.P).getD default) != 0)) || (a0.P.Kind == 1), a1))))
def zki (a0 : Asked) (a1 : za) : Option (Bool × za) := (zhs a0 a1).run
def zr70 : LQ (Asked × za) := (LQ.seq (Par.q (Par.ofLP zahs)) (LQ.skip (LQ.const (.ptr 0 0)) (LP.q providerL)))
def zqy : LQ (Bool × za) := (LQ.seq (Par.q boolP) (LP.q providerL))
def zsf : SpecT := zt 1 zr70 2 [.cells 61 97] (fun s => zhs s.1 s.2) default zqy 1 [.cells 61 97]
theorem z0m : zg Tryz.prog 58 (zsf).spec :=
  zd (A := za70) zh70 Facts.mix Tryz.func58 (c := zc70) (by kernel_rfl) (Lc := 1) trivial zr70 2 4 [.cells 61 97] (fun s => zhs s.1 s.2) default zqy 1 [.cells 61 97] [.pubN 0] (by decide) (by kernel_rfl) (by rfl) (by decide) (by decide) (by rfl)
    (by rintro ⟨a0, a1⟩; kernel_rfl)
noncomputable def zc71 : Code := Tryz.f75.body.getD .skip
def zv71 : List (List Nat) := [[0, 1], [0, 1, 7, 8], [0, 1, 7, 8, 9], [0, 1, 5, 7, 8], [0, 1, 5, 7, 8, 16], [4], [0, 1, 7, 8], [4]]
noncomputable def zy71 : EnvT := ⟨Tryz.prog, zq [(58, zsf)]⟩
theorem zh71 : (zy71).Ok := zc ⟨z0m, trivial⟩
def zaa (x0 : (List Asked)) (x1 : Int) (x2 : Int) (x3 : za) : Tr (((List Asked) × Int × Int × za) ⊕ ((Int × za) ⊕ (za))) :=
  (.ite (decide (x2 < x1))
    (.guard ((0 : Int) ≤ x2 ∧ x2 < ((Sl.len (.asked x0) : Nat) : Int))
    (.bind (zki (x0.getD x2.toNat default) x3) fun v1 =>
    (.ite (v1.1)
      (.leaf (.inr (.inl (x2, v1.2))))
      (.leaf (.inl (x0, x1, IntKind.i64.wrap (x2 + 1), v1.2))))))
    (.leaf (.inr (.inr x3))))
def zd1 (x0 : (List Asked)) (x1 : Int) (x2 : Int) (x3 : za) : Option ((Int × za) ⊕ (za)) := zel (fun s : (List Asked) × Int × Int × za => (zaa s.1 s.2.1 s.2.2.1 s.2.2.2).run) (x0, x1, x2, x3)
def za00 : Ann := ⟨[], [], [], zv71, []⟩
def za01 : EndD ((List Asked) × Int × Int × za) := ⟨(LQ.seq (Par.q zey) (LQ.skip (LQ.const (.fn 58 [.ptr 0 0])) (LQ.seq (Par.q intP) (LQ.seq (Par.q intP) (LP.q providerL))))), ⟨[0, 1, 7, 8], [.pub 0, .nilsl 0 (.asked [])]⟩, [.cells 61 97]⟩
def zaqd : EndD (Int × za) := ⟨(LQ.seq (Par.q intP) (LP.q providerL)), ⟨[4], []⟩, [.cells 61 97]⟩
def zaqe : EndD (za) := ⟨(LP.q providerL), ⟨[], []⟩, [.cells 61 97]⟩
def zaty : St → Option LR := L2 19 3 1 za01 .ret zaqd (.exit 0) zaqe (fun s => zaa s.1 s.2.1 s.2.2.1 s.2.2.2)
theorem za02 : zu (zy71).env 1 (sub zc71 [0, 1, 0, 1]) zaty :=
  zra (A := za00) zh71 Facts.mix trivial (k := zcw (sub zc71 [0, 1, 0, 1])) (by kernel_rfl) rfl rfl (by rintro ⟨x0, x1, x2, x3⟩; kernel_rfl)
def za71 : Ann := ⟨[([0, 1, 0, 1], zaty)], [], [], zv71, []⟩
def zaj (a0 : (List Asked)) (a1 : za) : Tr (Int × za) :=
  (.two (zd1 a0 ((a0.length : Nat) : Int) 0 a1) (fun v2 =>
    (.leaf (v2.1, v2.2))) (fun v3 =>
    (.leaf (-1, v3))))
def zci (a0 : (List Asked)) (a1 : za) : Option (Int × za) := (zaj a0 a1).run
def zr71 : LQ ((List Asked) × za) := (LQ.seq (Par.q zey) (LQ.skip (LQ.const (.fn 58 [.ptr 0 0])) (LP.q providerL)))
def zfa : LQ (Int × za) := (LQ.seq (Par.q intP) (LP.q providerL))
def zfi : SpecT := zt 1 zr71 2 [.cells 61 97] (fun s => zaj s.1 s.2) default zfa 1 [.cells 61 97]
theorem zlk : zg Tryz.prog 75 (zfi).spec :=
  zd (A := za71) zh71 Facts.mix Tryz.func75 (c := zc71) (by kernel_rfl) (Lc := 1) ⟨za02, trivial⟩ zr71 2 3 [.cells 61 97] (fun s => zaj s.1 s.2) default zfa 1 [.cells 61 97] [.pubN 0] (by decide) (by kernel_rfl) (by rfl) (by decide) (by decide) (by rfl)
    (by rintro ⟨a0, a1⟩; kernel_rfl)
noncomputable def zc72 : Code := Tryz.f57.body.getD .skip
def zv72 : List (List Nat) := [[0, 1], [4]]
noncomputable def zy72 : EnvT := ⟨Tryz.prog, zq [(75, zfi)]⟩
theorem zh72 : (zy72).Ok := zc ⟨zlk, trivial⟩
def za72 : Ann := ⟨[], [], [], zv72, []⟩
def zba (a0 : (List Asked)) (a1 : za) : Tr (Bool × za) :=
  (.bind (zci a0 a1) fun v1 =>
  (.leaf (decide (v1.1 ≥ 0), v1.2)))
def zcd (a0 : (List Asked)) (a1 : za) : Option (Bool × za) := (zba a0 a1).run
def zr72 : LQ ((List Asked) × za) := (LQ.seq (Par.q zey) (LQ.skip (LQ.const (.fn 58 [.ptr 0 0])) (LP.q providerL)))
def zeu : LQ (Bool × za) := (LQ.seq (Par.q boolP) (LP.q providerL))
def zfb : SpecT := zt 1 zr72 2 [.cells 61 97] (fun s => zba s.1 s.2) default zeu 1 [.cells 61 97]
theorem zk3 : zg Tryz.prog 57 (zfb).spec :=
  zd (A := za72) zh72 Facts.mix Tryz.func57 (c := zc72) (by kernel_rfl) (Lc := 1) trivial zr72 2 3 [.cells 61 97] (fun s => zba s.1 s.2) default zeu 1 [.cells 61 97] [.pubN 0] (by decide) (by kernel_rfl) (by rfl) (by decide) (by decide) (by rfl)
    (by rintro ⟨a0, a1⟩; kernel_rfl)
noncomputable def zc73 : Code := Tryz.f25.body.getD .skip
def zv73 : List (List Nat) := [[1], [1, 36], [2], [1, 38, 39], [1, 38, 39, 40], [1, 4, 38, 39], [1, 4, 38, 39, 71], [2], [1, 4, 38, 39, 73, 74, 75], [1, 4, 38, 39, 73, 74, 75, 76], [1, 4, 5, 6, 38, 39, 73, 74, 75], [1, 4, 38, 39, 73, 74, 75, 99], [2], [1, 4, 38, 39, 73, 74, 75], [1, 38, 39], [2]]
noncomputable def zy73 : EnvT := ⟨Tryz.prog, zq [(21, zmu), (56, zxx), (52, zlf), (57, zfb)]⟩
theorem zh73 : (zy73).Ok := zc ⟨zoh, z4p, zmr, zk3, trivial⟩
def zgt (x0 : Links) (x1 : Int) (x2 : (List Int)) (x3 : Int) (x4 : Int) (x5 : za) (x6 : Link) : Tr ((Links × Int × (List Int) × Int × Int × za × Link) ⊕ ((Bool) ⊕ (Links × Int × za))) :=
  (.ite (decide (x4 < x3))
    (.guard ((0 : Int) ≤ x4 ∧ x4 < ((Sl.len (.ints x2) : Nat) : Int))
    (.guard (((decide (x4 > 0)) = true → (((decide ((x2.getD x4.toNat 0) < 0)) || (decide ((x2.getD x4.toNat 0) ≥ 6))) = false → ((0 : Int) ≤ (IntKind.i64.wrap (x4 - 1)) ∧ (IntKind.i64.wrap (x4 - 1)) < ((Sl.len (.ints x6.Done) : Nat) : Int)) ∧ True)))
    (.ite (((decide ((x2.getD x4.toNat 0) < 0)) || (decide ((x2.getD x4.toNat 0) ≥ 6))) || ((decide (x4 > 0)) && (decide ((x6.Done.getD ((IntKind.i64.wrap (x4 - 1)).toNat) 0) ≥ (x2.getD x4.toNat 0)))))
      (.leaf (.inr (.inl false)))
      (.leaf (.inl (x0, x1, x2, x3, IntKind.i64.wrap (x4 + 1), x5, x6))))))
    (.leaf (.inr (.inr (x0, x1, x5)))))
def zpj (x0 : Links) (x1 : Int) (x2 : (List Int)) (x3 : Int) (x4 : Int) (x5 : za) (x6 : Link) : Option ((Bool) ⊕ (Links × Int × za)) := zel (fun s : Links × Int × (List Int) × Int × Int × za × Link => (zgt s.1 s.2.1 s.2.2.1 s.2.2.2.1 s.2.2.2.2.1 s.2.2.2.2.2.1 s.2.2.2.2.2.2).run) (x0, x1, x2, x3, x4, x5, x6)
def za06 : Ann := ⟨[], [], [], zv73, []⟩
def za07 : EndD (Links × Int × (List Int) × Int × Int × za × Link) := ⟨(LQ.skip (LQ.const (.ptr 0 0)) (LQ.skip (LQ.const (.ptr 1 0)) (LQ.seq (Par.q (Par.ofLP linksL)) (LQ.seq (Par.q intP) (LQ.seq (Par.q zgz) (LQ.seq (Par.q intP) (LQ.seq (Par.q intP) (LQ.seq (LP.q providerL) (LP.q zar6))))))))), ⟨[1, 4, 38, 39, 73, 74, 75], [.pub 73, .nilsl 73 (.ints [])]⟩, [.cells 61 97, .cells 55 14]⟩
def zaqf : EndD (Bool) := ⟨(Par.q boolP), ⟨[2], []⟩, []⟩
def zaqg : EndD (Links × Int × za) := ⟨(LQ.skip (LQ.const (.ptr 0 0)) (LQ.seq (Par.q (Par.ofLP linksL)) (LQ.seq (Par.q intP) (LP.q providerL)))), ⟨[1, 38, 39], []⟩, [.cells 61 97]⟩
def zat0 : St → Option LR := L2 107 4 0 za07 .ret zaqf (.exit 2) zaqg (fun s => zgt s.1 s.2.1 s.2.2.1 s.2.2.2.1 s.2.2.2.2.1 s.2.2.2.2.2.1 s.2.2.2.2.2.2)
theorem za08 : zu (zy73).env 0 (sub zc73 [0, 1, 1, 1, 0, 0, 1, 1, 0, 0, 1, 0, 1, 1]) zat0 :=
  zra (A := za06) zh73 Facts.mix trivial (k := zcw (sub zc73 [0, 1, 1, 1, 0, 0, 1, 1, 0, 0, 1, 0, 1, 1])) (by kernel_rfl) rfl rfl (by rintro ⟨x0, x1, x2, x3, x4, x5, x6⟩; kernel_rfl)
def zdc (x0 : Links) (x1 : Int) (x2 : za) : Tr ((Links × Int × za) ⊕ ((Bool) ⊕ (za))) :=
  (.ite (decide (x1 < 2))
    (.guard ((0 : Int) ≤ x1 ∧ (x1 : Int) < 2)
    (.guard ((((((x0.On.get x1) && (x0.Gone.get x1)) || (decide ((x0.Base.get x1) < 0))) || (decide ((x0.Base.get x1) > x2.Height))) = false → ((zdu (x0.Told.get x1)).isSome = true) ∧ True))
    (.guard (((((((x0.On.get x1) && (x0.Gone.get x1)) || (decide ((x0.Base.get x1) < 0))) || (decide ((x0.Base.get x1) > x2.Height))) || (!((zdu (x0.Told.get x1)).getD default))) = false → ((zeb (⟨x0.Said.get x1, x0.Due.get x1, x0.Got.get x1, x0.Closed.get x1⟩ : zes)).isSome = true) ∧ True))
    (.ite ((((((x0.On.get x1) && (x0.Gone.get x1)) || (decide ((x0.Base.get x1) < 0))) || (decide ((x0.Base.get x1) > x2.Height))) || (!((zdu (x0.Told.get x1)).getD default))) || (!((zeb (⟨x0.Said.get x1, x0.Due.get x1, x0.Got.get x1, x0.Closed.get x1⟩ : zes)).getD default)))
      (.leaf (.inr (.inl false)))
      (.two (zpj x0 x1 (x0.Done.get x1) (((x0.Done.get x1).length : Nat) : Int) 0 x2 (⟨x0.On.get x1, x0.Gone.get x1, x0.Base.get x1, x0.Told.get x1, x0.Fresh.get x1, x0.Done.get x1, (⟨x0.Said.get x1, x0.Due.get x1, x0.Got.get x1, x0.Closed.get x1⟩ : zes), (⟨x0.SHeight.get x1, x0.STime.get x1, x0.SSaid.get x1, x0.SGot.get x1⟩ : z72)⟩ : Link)) (fun v2 =>
        (.leaf (.inr (.inl v2)))) (fun v3 =>
        (.leaf (.inl (v3.1, IntKind.i64.wrap (v3.2.1 + 1), v3.2.2)))))))))
    (.leaf (.inr (.inr x2))))
def zjj (x0 : Links) (x1 : Int) (x2 : za) : Option ((Bool) ⊕ (za)) := zel (fun s : Links × Int × za => (zdc s.1 s.2.1 s.2.2).run) (x0, x1, x2)
def za09 : Ann := ⟨[([0, 1, 1, 1, 0, 0, 1, 1, 0, 0, 1, 0, 1, 1], zat0)], [], [], zv73, []⟩
def za1a : EndD (Links × Int × za) := ⟨(LQ.skip (LQ.const (.ptr 0 0)) (LQ.seq (Par.q (Par.ofLP linksL)) (LQ.seq (Par.q intP) (LP.q providerL)))), ⟨[1, 38, 39], []⟩, [.cells 61 97]⟩
def zaqh : EndD (Bool) := ⟨(Par.q boolP), ⟨[2], []⟩, []⟩
def zaqi : EndD (za) := ⟨(LQ.skip (LQ.const (.ptr 0 0)) (LP.q providerL)), ⟨[1], []⟩, [.cells 61 97]⟩
def zat1 : St → Option LR := L2 107 4 0 za1a .ret zaqh (.exit 0) zaqi (fun s => zdc s.1 s.2.1 s.2.2)
theorem za1b : zu (zy73).env 0 (sub zc73 [0, 1, 0, 1, 1]) zat1 :=
  zra (A := za09) zh73 Facts.mix ⟨za08, trivial⟩ (k := zcw (sub zc73 [0, 1, 0, 1, 1])) (by kernel_rfl) rfl rfl (by rintro ⟨x0, x1, x2⟩; kernel_rfl)
def za73 : Ann := ⟨[([0, 1, 0, 1, 1], zat1)], [], [], zv73, []⟩
def zkj (a0 : za) : Tr (Bool) :=
  (.bind (zft a0.Stake) fun v1 =>
  (.guard (((((((!v1) || (decide (a0.Height < 0))) || (decide (a0.Height ≥ 1099511627776))) || (decide (a0.Time < 0))) || (decide (a0.Time > 1099511627776))) = false → ((zdu a0.Set).isSome = true) ∧ True))
  (.ite ((((((!v1) || (decide (a0.Height < 0))) || (decide (a0.Height ≥ 1099511627776))) || (decide (a0.Time < 0))) || (decide (a0.Time > 1099511627776))) || (!((zdu a0.Set).getD default)))
    (.leaf false)
    (.two (zjj a0.Links 0 a0) (fun v4 =>
      (.leaf v4)) (fun v5 =>
      (.bind (zcd v5.Queue v5) fun v6 =>
      (.leaf (!v6.1))))))))
def zay (a0 : za) : Option (Bool) := (zkj a0).run
def zr73 : LQ (za) := (Par.q (Par.ofLP providerL))
def zt4 : LQ (Bool) := (Par.q boolP)
def zb0 : SpecT := zt 0 zr73 1 [] (fun s => zkj s) default zt4 1 []
theorem zca : zg Tryz.prog 25 (zb0).spec :=
  zd (A := za73) zh73 Facts.mix Tryz.func25 (c := zc73) (by kernel_rfl) (Lc := 0) ⟨za1b, trivial⟩ zr73 1 4 [] (fun s => zkj s) default zt4 1 [] [] (by decide) (by kernel_rfl) (by rfl) (by decide) (by decide) (by rfl)
    (by rintro a0; kernel_rfl)
noncomputable def zc74 : Code := Tryz.f60.body.getD .skip
def zv74 : List (List Nat) := [[1, 2, 3, 4, 8], [1, 2, 3, 4, 8, 14], [8, 9], [4, 8, 10, 11], [4, 8, 10, 11, 26], [8, 9], [4, 8], [8, 9]]
noncomputable def zy74 : EnvT := ⟨Tryz.prog, zq [(25, zb0), (76, ztw)]⟩
theorem zh74 : (zy74).Ok := zc ⟨zca, z1d, trivial⟩
def za74 : Ann := ⟨[], [], [], zv74, []⟩
def zfv (a0 : za) (a1 : Int) (a2 : Int) (a3 : Int) : Tr (za × Int) :=
  (.bind (zay a0) fun v1 =>
  (.ite (!v1)
    (.leaf (a0, 2))
    (.bind (zlg a0.Stake a1 a2 a3) fun v2 =>
    (.ite (v2.2 != 0)
      (.leaf (a0, v2.2))
      (.leaf ({ (a0 : za) with Stake := v2.1 }, 0))))))
def zib (a0 : za) (a1 : Int) (a2 : Int) (a3 : Int) : Option (za × Int) := (zfv a0 a1 a2 a3).run
def zr74 : LQ (za × Int × Int × Int) := (LQ.seq (Par.q (Par.ofLP providerL)) (LQ.seq (Par.q intP) (LQ.seq (Par.q intP) (Par.q intP))))
def znm : LQ (za × Int) := (LQ.seq (Par.q (Par.ofLP providerL)) (Par.q intP))
def zpk : SpecT := zt 0 zr74 4 [] (fun s => zfv s.1 s.2.1 s.2.2.1 s.2.2.2) default znm 2 []
theorem zw3 : zg Tryz.prog 60 (zpk).spec :=
  zd (A := za74) zh74 Facts.mix Tryz.func60 (c := zc74) (by kernel_rfl) (Lc := 0) trivial zr74 4 5 [] (fun s => zfv s.1 s.2.1 s.2.2.1 s.2.2.2) default znm 2 [] [.pubB 8] (by decide) (by kernel_rfl) (by rfl) (by decide) (by decide) (by rfl)
    (by rintro ⟨a0, a1, a2, a3⟩; kernel_rfl)
noncomputable def zc75 : Code := Tryz.f61.body.getD .skip
def zv75 : List (List Nat) := [[1, 2, 3, 4, 5, 10], [1, 2, 3, 4, 5, 10, 27], [10, 11], [1, 2, 3, 5, 10, 12], [1, 2, 3, 5, 10, 12, 35], [1, 2, 3, 5, 10, 12, 35, 36], [1, 2, 3, 5, 10, 12, 13, 35], [1, 2, 3, 5, 10, 12, 13, 35, 42], [1, 2, 3, 5, 10, 12, 35], [1, 2, 3, 5, 10, 12, 35], [5, 10, 14, 15], [5, 10, 14, 15, 61], [10, 11], [5, 10], [5, 10, 66], [5, 10, 66, 67], [5, 10, 16, 66], [5, 10, 66], [5, 10, 66], [10, 11]]
noncomputable def zy75 : EnvT := ⟨Tryz.prog, zq [(25, zb0), (77, zqn)]⟩
theorem zh75 : (zy75).Ok := zc ⟨zca, zyn, trivial⟩
def zau (x0 : Int) (x1 : Int) (x2 : Int) (x3 : Int) (x4 : za) (x5 : za) (x6 : Wait) : Tr ((Int × Int × Int × Int × za × za × Wait) ⊕ (Int × Int × Int × za × za × Wait)) :=
  (.ite (decide (x3 < 2))
    (.guard ((0 : Int) ≤ x3 ∧ (x3 : Int) < 2)
    (.ite (x4.Links.On.get x3)
      (.guard ((0 : Int) ≤ x3 ∧ (x3 : Int) < 2)
      (.leaf (.inl (x0, x1, x2, IntKind.i64.wrap (x3 + 1), x4, x5, { (x6 : Wait) with h0 := if x3 = 0 then IntKind.i64.wrap (x4.Height + 1) else x6.h0, h1 := if x3 = 1 then IntKind.i64.wrap (x4.Height + 1) else x6.h1 }))))
      (.leaf (.inl (x0, x1, x2, IntKind.i64.wrap (x3 + 1), x4, x5, x6)))))
    (.leaf (.inr (x0, x1, x2, x4, x5, x6))))
def zep (x0 : Int) (x1 : Int) (x2 : Int) (x3 : Int) (x4 : za) (x5 : za) (x6 : Wait) : Option (Int × Int × Int × za × za × Wait) := zel (fun s : Int × Int × Int × Int × za × za × Wait => (zau s.1 s.2.1 s.2.2.1 s.2.2.2.1 s.2.2.2.2.1 s.2.2.2.2.2.1 s.2.2.2.2.2.2).run) (x0, x1, x2, x3, x4, x5, x6)
def za1f : Ann := ⟨[], [], [], zv75, []⟩
def za1g : EndD (Int × Int × Int × Int × za × za × Wait) := ⟨(LQ.seq (Par.q intP) (LQ.seq (Par.q intP) (LQ.seq (Par.q intP) (LQ.skip (LQ.const (.ptr 0 0)) (LQ.skip (LQ.const (.ptr 1 0)) (LQ.skip (LQ.const (.ptr 2 0)) (LQ.seq (Par.q intP) (LQ.seq (LP.q providerL) (LQ.seq (LP.q providerL) (LP.q zaos)))))))))), ⟨[1, 2, 3, 5, 10, 12, 35], []⟩, [.cells 61 97, .cells 61 97, .cells 98 8]⟩
def zaqj : EndD (Int × Int × Int × za × za × Wait) := ⟨(LQ.seq (Par.q intP) (LQ.seq (Par.q intP) (LQ.seq (Par.q intP) (LQ.skip (LQ.const (.ptr 0 0)) (LQ.skip (LQ.const (.ptr 1 0)) (LQ.skip (LQ.const (.ptr 2 0)) (LQ.seq (LP.q providerL) (LQ.seq (LP.q providerL) (LP.q zaos))))))))), ⟨[1, 2, 3, 5, 10, 12], []⟩, [.cells 61 97, .cells 61 97, .cells 98 8]⟩
def zat3 : St → Option LR := L1 87 6 0 za1g (.exit 0) zaqj (fun s => zau s.1 s.2.1 s.2.2.1 s.2.2.2.1 s.2.2.2.2.1 s.2.2.2.2.2.1 s.2.2.2.2.2.2)
theorem za1h : zu (zy75).env 0 (sub zc75 [0, 1, 0, 1, 1, 1]) zat3 :=
  zjd (A := za1f) zh75 Facts.mix trivial (k := zcw (sub zc75 [0, 1, 0, 1, 1, 1])) (by kernel_rfl) rfl (by rintro ⟨x0, x1, x2, x3, x4, x5, x6⟩; kernel_rfl)
def zav (x0 : Int) (x1 : za) (x2 : za) : Tr ((Int × za × za) ⊕ (za × za)) :=
  (.ite (decide (x0 < 2))
    (.guard ((0 : Int) ≤ x0 ∧ (x0 : Int) < 2)
    (.guard (((x1.Links.Fresh.get x0) = false → ((0 : Int) ≤ x0 ∧ (x0 : Int) < 2) ∧ True))
    (.guard ((0 : Int) ≤ x0 ∧ (x0 : Int) < 2)
    (.leaf (.inl (IntKind.i64.wrap (x0 + 1), { (x1 : za) with Links := { (x1.Links : Links) with Fresh := (x1.Links.Fresh.set x0 ((x1.Links.Fresh.get x0) || (x1.Links.On.get x0))) } }, x2))))))
    (.leaf (.inr (x1, x2))))
def ziu (x0 : Int) (x1 : za) (x2 : za) : Option (za × za) := zel (fun s : Int × za × za => (zav s.1 s.2.1 s.2.2).run) (x0, x1, x2)
def za1i : Ann := ⟨[], [], [], zv75, []⟩
def za1j : EndD (Int × za × za) := ⟨(LQ.skip (LQ.const (.ptr 0 0)) (LQ.skip (LQ.const (.ptr 1 0)) (LQ.seq (Par.q intP) (LQ.seq (LP.q providerL) (LP.q providerL))))), ⟨[5, 10, 66], []⟩, [.cells 61 97, .cells 61 97]⟩
def zaqk : EndD (za × za) := ⟨(LQ.skip (LQ.const (.ptr 0 0)) (LQ.skip (LQ.const (.ptr 1 0)) (LQ.seq (LP.q providerL) (LP.q providerL)))), ⟨[5, 10], []⟩, [.cells 61 97, .cells 61 97]⟩
def zat4 : St → Option LR := L1 87 6 0 za1j (.exit 2) zaqk (fun s => zav s.1 s.2.1 s.2.2)
theorem za1k : zu (zy75).env 0 (sub zc75 [0, 1, 0, 1, 1, 1, 1, 1, 1, 1]) zat4 :=
  zjd (A := za1i) zh75 Facts.mix trivial (k := zcw (sub zc75 [0, 1, 0, 1, 1, 1, 1, 1, 1, 1])) (by kernel_rfl) rfl (by rintro ⟨x0, x1, x2⟩; kernel_rfl)
def za75 : Ann := ⟨[([0, 1, 0, 1, 1, 1], zat3), ([0, 1, 0, 1, 1, 1, 1, 1, 1, 1], zat4)], [], [], zv75, []⟩
def zeg (a0 : za) (a1 : Int) (a2 : Int) (a3 : Int) (a4 : Int) : Tr (za × Int) :=
  (.bind (zay a0) fun v1 =>
  (.ite (((!v1) || (decide (a4 < 0))) || (decide (a4 > 1099511627776)))
    (.leaf (a0, 2))
    (.bind (zep a1 a2 a3 0 a0 (default : za) (⟨0, 0, 0, 0, IntKind.i64.wrap (a0.Height + 1), IntKind.i64.wrap (a4 + 20), 0, 0⟩ : Wait)) fun v2 =>
    (.bind (zjg v2.2.2.2.1.Stake v2.1 v2.2.1 v2.2.2.1 v2.2.2.2.2.2) fun v3 =>
    (.ite (v3.2 != 0)
      (.leaf (v2.2.2.2.1, v3.2))
      (.bind (ziu 0 ({ (v2.2.2.2.1 : za) with Stake := v3.1 }) v2.2.2.2.2.1) fun v4 =>
      (.leaf (v4.1, 0))))))))
def zbh (a0 : za) (a1 : Int) (a2 : Int) (a3 : Int) (a4 : Int) : Option (za × Int) := (zeg a0 a1 a2 a3 a4).run
def zr75 : LQ (za × Int × Int × Int × Int) := (LQ.seq (Par.q (Par.ofLP providerL)) (LQ.seq (Par.q intP) (LQ.seq (Par.q intP) (LQ.seq (Par.q intP) (Par.q intP)))))
def zk7 : LQ (za × Int) := (LQ.seq (Par.q (Par.ofLP providerL)) (Par.q intP))
def zmx : SpecT := zt 0 zr75 5 [] (fun s => zeg s.1 s.2.1 s.2.2.1 s.2.2.2.1 s.2.2.2.2) default zk7 2 []
theorem zui : zg Tryz.prog 61 (zmx).spec :=
  zd (A := za75) zh75 Facts.mix Tryz.func61 (c := zc75) (by kernel_rfl) (Lc := 0) ⟨za1h, za1k, trivial⟩ zr75 5 6 [] (fun s => zeg s.1 s.2.1 s.2.2.1 s.2.2.2.1 s.2.2.2.2) default zk7 2 [] [.pubB 10] (by decide) (by kernel_rfl) (by rfl) (by decide) (by decide) (by rfl)
    (by rintro ⟨a0, a1, a2, a3, a4⟩; kernel_rfl)
noncomputable def zc76 : Code := Tryz.f82.body.getD .skip
def zv76 : List (List Nat) := [[1, 2, 4], [1, 2, 4, 8], [4, 5], [1, 2, 4, 13], [4, 5], [1, 2, 4, 21], [4, 5], [1, 2, 4, 28], [4, 5], [1, 2, 4, 35], [4, 5], [1, 2, 4], [1, 2, 4], [1, 2, 4, 64, 65], [1, 2, 4, 64, 65, 66], [1, 2, 4, 6, 64, 65], [1, 2, 4, 7, 64, 65], [1, 2, 4, 7, 64, 65, 79], [1, 2, 4, 64, 65], [1, 2, 4, 64, 65], [1, 2, 4, 64, 65], [4, 5]]
noncomputable def zy76 : EnvT := ⟨Tryz.prog, zq [(25, zb0), (102, zd2), (94, zbw)]⟩
theorem zh76 : (zy76).Ok := zc ⟨zca, zg2, zcy, trivial⟩
def zdv (x0 : Int) (x1 : Int) (x2 : Int) (x3 : za) (x4 : za) : Tr ((Int × Int × Int × za × za) ⊕ (za × za)) :=
  (.ite (decide (x2 < x1))
    (.guard ((0 : Int) ≤ x2 ∧ x2 < ((Sl.len (.waits x3.Stake.Waits) : Nat) : Int))
    (.ite (decide (((x3.Stake.Waits.getD x2.toNat default).Height) > x3.Height))
      (.guard ((0 : Int) ≤ x0 ∧ (x0 : Int) < 2)
      (.guard ((0 : Int) ≤ x0 ∧ (x0 : Int) < 2)
      (.leaf (.inl (x0, x1, IntKind.i64.wrap (x2 + 1), { (x3 : za) with Stake := { (x3.Stake : Stake) with Waits := x3.Stake.Waits.set x2.toNat ({ ((x3.Stake.Waits.getD x2.toNat default) : Wait) with h0 := if x0 = 0 then (x3.Stake.Waits.getD x2.toNat default).Height else (x3.Stake.Waits.getD x2.toNat default).h0, h1 := if x0 = 1 then (x3.Stake.Waits.getD x2.toNat default).Height else (x3.Stake.Waits.getD x2.toNat default).h1 }) }, Links := { (x3.Links : Links) with Fresh := (x3.Links.Fresh.set x0 true) } }, x4)))))
      (.leaf (.inl (x0, x1, IntKind.i64.wrap (x2 + 1), x3, x4)))))
    (.leaf (.inr (x3, x4))))
def zic (x0 : Int) (x1 : Int) (x2 : Int) (x3 : za) (x4 : za) : Option (za × za) := zel (fun s : Int × Int × Int × za × za => (zdv s.1 s.2.1 s.2.2.1 s.2.2.2.1 s.2.2.2.2).run) (x0, x1, x2, x3, x4)
def za1m : Ann := ⟨[], [], [], zv76, []⟩
def za1n : EndD (Int × Int × Int × za × za) := ⟨(LQ.map (LQ.seq (Par.q intP) (LQ.skip (LQ.const (.ptr 0 0)) (LQ.skip (LQ.const (.ptr 1 0)) (LQ.seq (Par.q intP) (LQ.seq (Par.q intP) (LQ.seq (Par.q intP) (LQ.seq (Par.q intP) (LQ.seq (LP.q bankL) (LQ.seq (LP.q validatorsL) (LQ.seq (LP.q (a4L (a6L (LP.one intP)))) (LQ.skip (LQ.const (.own 2)) (LQ.seq (Par.q intP) (LQ.seq (Par.q zo) (LQ.seq (LP.q linksL) (LQ.seq (LP.q meterL) (LQ.seq (Par.q zey) (LQ.seq (LP.q providerL) (Par.q zmp)))))))))))))))))) (fun x : Int × Int × Int × Int × Int × Bank × Validators × (A4 (A6 Int)) × Int × (List Power) × Links × Meter × (List Asked) × za × (List Wait) => ((x.1, x.2.1, x.2.2.1, (⟨x.2.2.2.1, x.2.2.2.2.1, (⟨x.2.2.2.2.2.1, x.2.2.2.2.2.2.1, x.2.2.2.2.2.2.2.1, x.2.2.2.2.2.2.2.2.2.2.2.2.2.2, x.2.2.2.2.2.2.2.2.1⟩ : Stake), x.2.2.2.2.2.2.2.2.2.1, x.2.2.2.2.2.2.2.2.2.2.1, x.2.2.2.2.2.2.2.2.2.2.2.1, x.2.2.2.2.2.2.2.2.2.2.2.2.1⟩ : za), x.2.2.2.2.2.2.2.2.2.2.2.2.2.1) : Int × Int × Int × za × za)) (fun y => (y.1, y.2.1, y.2.2.1, y.2.2.2.1.Height, y.2.2.2.1.Time, y.2.2.2.1.Stake.Bank, y.2.2.2.1.Stake.Validators, y.2.2.2.1.Stake.Shares, y.2.2.2.1.Stake.Next, y.2.2.2.1.Set, y.2.2.2.1.Links, y.2.2.2.1.Meter, y.2.2.2.1.Queue, y.2.2.2.2, y.2.2.2.1.Stake.Waits)) (fun _ => rfl)), ⟨[1, 2, 4, 64, 65], [.nilcell 2 63 98 (.waits [])]⟩, [.cells 61 97, .cells 61 97, .rows 98]⟩
def zaql : EndD (za × za) := ⟨(LQ.map (LQ.skip (LQ.const (.ptr 0 0)) (LQ.skip (LQ.const (.ptr 1 0)) (LQ.seq (Par.q intP) (LQ.seq (Par.q intP) (LQ.seq (LP.q bankL) (LQ.seq (LP.q validatorsL) (LQ.seq (LP.q (a4L (a6L (LP.one intP)))) (LQ.skip (LQ.const (.own 2)) (LQ.seq (Par.q intP) (LQ.seq (Par.q zo) (LQ.seq (LP.q linksL) (LQ.seq (LP.q meterL) (LQ.seq (Par.q zey) (LQ.seq (LP.q providerL) (Par.q zmp))))))))))))))) (fun x : Int × Int × Bank × Validators × (A4 (A6 Int)) × Int × (List Power) × Links × Meter × (List Asked) × za × (List Wait) => (((⟨x.1, x.2.1, (⟨x.2.2.1, x.2.2.2.1, x.2.2.2.2.1, x.2.2.2.2.2.2.2.2.2.2.2, x.2.2.2.2.2.1⟩ : Stake), x.2.2.2.2.2.2.1, x.2.2.2.2.2.2.2.1, x.2.2.2.2.2.2.2.2.1, x.2.2.2.2.2.2.2.2.2.1⟩ : za), x.2.2.2.2.2.2.2.2.2.2.1) : za × za)) (fun y => (y.1.Height, y.1.Time, y.1.Stake.Bank, y.1.Stake.Validators, y.1.Stake.Shares, y.1.Stake.Next, y.1.Set, y.1.Links, y.1.Meter, y.1.Queue, y.2, y.1.Stake.Waits)) (fun _ => rfl)), ⟨[2, 4], [.nilcell 2 63 98 (.waits [])]⟩, [.cells 61 97, .cells 61 97, .rows 98]⟩
def zat5 : St → Option LR := L1 95 5 0 za1n (.exit 1) zaql (fun s => zdv s.1 s.2.1 s.2.2.1 s.2.2.2.1 s.2.2.2.2)
theorem za1o : zu (zy76).env 0 (sub zc76 [0, 1, 0, 1, 1, 1, 1]) zat5 :=
  zjd (A := za1m) zh76 Facts.mix trivial (k := zcw (sub zc76 [0, 1, 0, 1, 1, 1, 1])) (by kernel_rfl) rfl (by rintro ⟨x0, x1, x2, x3, x4⟩; kernel_rfl)
def za76 : Ann := ⟨[([0, 1, 0, 1, 1, 1, 1], zat5)], [], [], zv76, []⟩
def zi6 (a0 : za) (a1 : Int) : Tr (za × Int) :=
  (.bind (zay a0) fun v1 =>
  (.ite (!v1)
    (.leaf (a0, 2))
    (.ite ((decide (a1 < 0)) || (decide (a1 ≥ 2)))
      (.leaf (a0, 4))
      (.guard ((0 : Int) ≤ a1 ∧ (a1 : Int) < 2)
      (.ite (a0.Links.Gone.get a1)
        (.leaf (a0, 11))
        (.guard ((0 : Int) ≤ a1 ∧ (a1 : Int) < 2)
        (.ite (a0.Links.On.get a1)
          (.leaf (a0, 5))
          (.ite ((decide (a0.Height < 1)) || (((a0.Set.length : Nat) : Int) == 0))
            (.leaf (a0, 13))
            (.guard ((zah a0.Set).isSome = true)
            (.guard ((0 : Int) ≤ a1 ∧ (a1 : Int) < 2)
            (.bind (zr a0.Stake.Waits) fun v2 =>
            (.bind (zic a1 ((v2.length : Nat) : Int) 0 ({ (a0 : za) with Stake := { (a0.Stake : Stake) with Waits := v2 }, Links := (⟨(a0.Links.On.set a1 true), (a0.Links.Gone.set a1 false), (a0.Links.Base.set a1 a0.Height), (a0.Links.Told.set a1 ((zah a0.Set).getD default)), (a0.Links.Fresh.set a1 false), (a0.Links.Done.set a1 []), (a0.Links.Said.set a1 []), (a0.Links.Due.set a1 []), (a0.Links.Got.set a1 0), (a0.Links.Closed.set a1 false), (a0.Links.SHeight.set a1 0), (a0.Links.STime.set a1 0), (a0.Links.SSaid.set a1 0), (a0.Links.SGot.set a1 0)⟩ : Links) }) (default : za)) fun v3 =>
            (.leaf (v3.1, 0))))))))))))))
def zai (a0 : za) (a1 : Int) : Option (za × Int) := (zi6 a0 a1).run
def zr76 : LQ (za × Int) := (LQ.seq (Par.q (Par.ofLP providerL)) (Par.q intP))
def zsg : LQ (za × Int) := (LQ.seq (Par.q (Par.ofLP providerL)) (Par.q intP))
def zt5 : SpecT := zt 0 zr76 2 [] (fun s => zi6 s.1 s.2) default zsg 2 []
theorem z1f : zg Tryz.prog 82 (zt5).spec :=
  zd (A := za76) zh76 Facts.mix Tryz.func82 (c := zc76) (by kernel_rfl) (Lc := 0) ⟨za1o, trivial⟩ zr76 2 5 [] (fun s => zi6 s.1 s.2) default zsg 2 [] [.pubB 4] (by decide) (by kernel_rfl) (by rfl) (by decide) (by decide) (by rfl)
    (by rintro ⟨a0, a1⟩; kernel_rfl)
noncomputable def zc77 : Code := Tryz.f137.body.getD .skip
def zv77 : List (List Nat) := [[1, 2], [3]]
noncomputable def zy77 : EnvT := ⟨Tryz.prog, zq []⟩
theorem zh77 : (zy77).Ok := zc trivial
def za77 : Ann := ⟨[], [], [], zv77, []⟩
def zfw (a0 : Asked) (a1 : Int) : Tr (Bool × Int) :=
  (.leaf (a0.C == a1, a1))
def zew (a0 : Asked) (a1 : Int) : Option (Bool × Int) := (zfw a0 a1).run
def zr77 : LQ (Asked × Int) := (LQ.seq (Par.q (Par.ofLP zahs)) (LQ.skip (LQ.const (.ptr 0 0)) (Par.q intP)))
def znn : LQ (Bool × Int) := (LQ.seq (Par.q boolP) (Par.q intP))
def zjk : SpecT := zt 1 zr77 2 [.cells 3 1] (fun s => zfw s.1 s.2) default znn 1 [.cells 3 1]
theorem zno : zg Tryz.prog 137 (zjk).spec :=
  zd (A := za77) zh77 Facts.mix Tryz.func137 (c := zc77) (by kernel_rfl) (Lc := 1) trivial zr77 2 4 [.cells 3 1] (fun s => zfw s.1 s.2) default znn 1 [.cells 3 1] [] (by decide) (by kernel_rfl) (by rfl) (by decide) (by decide) (by rfl)
    (by rintro ⟨a0, a1⟩; kernel_rfl)
noncomputable def zc78 : Code := Tryz.f75.body.getD .skip
def zv78 : List (List Nat) := [[0, 1], [0, 1, 7, 8], [0, 1, 7, 8, 9], [0, 1, 5, 7, 8], [0, 1, 5, 7, 8, 16], [4], [0, 1, 7, 8], [4]]
noncomputable def zy78 : EnvT := ⟨Tryz.prog, zq [(137, zjk)]⟩
theorem zh78 : (zy78).Ok := zc ⟨zno, trivial⟩
def zab (x0 : Int) (x1 : Int) (x2 : Int) (x3 : (List Asked)) : Tr ((Int × Int × Int × (List Asked)) ⊕ ((Int × Int × (List Asked)) ⊕ (Int × (List Asked)))) :=
  (.ite (decide (x1 < x0))
    (.guard ((0 : Int) ≤ x1 ∧ x1 < ((Sl.len (.asked x3) : Nat) : Int))
    (.bind (zew (x3.getD x1.toNat default) x2) fun v1 =>
    (.ite (v1.1)
      (.leaf (.inr (.inl (x1, v1.2, x3))))
      (.leaf (.inl (x0, IntKind.i64.wrap (x1 + 1), v1.2, x3))))))
    (.leaf (.inr (.inr (x2, x3)))))
def zbu (x0 : Int) (x1 : Int) (x2 : Int) (x3 : (List Asked)) : Option ((Int × Int × (List Asked)) ⊕ (Int × (List Asked))) := zel (fun s : Int × Int × Int × (List Asked) => (zab s.1 s.2.1 s.2.2.1 s.2.2.2).run) (x0, x1, x2, x3)
def za1q : Ann := ⟨[], [], [], zv78, []⟩
def za1r : EndD (Int × Int × Int × (List Asked)) := ⟨(LQ.skip (LQ.const (.own 1)) (LQ.skip (LQ.const (.fn 137 [.ptr 0 0])) (LQ.seq (Par.q intP) (LQ.seq (Par.q intP) (LQ.seq (Par.q intP) (Par.q zey)))))), ⟨[0, 1, 7, 8], [.nilown 0 101 (.asked [])]⟩, [.cells 3 1, .rows 101]⟩
def zaqm : EndD (Int × Int × (List Asked)) := ⟨(LQ.seq (Par.q intP) (LQ.seq (Par.q intP) (Par.q zey))), ⟨[4], []⟩, [.cells 3 1, .rows 101]⟩
def zaqn : EndD (Int × (List Asked)) := ⟨(LQ.seq (Par.q intP) (Par.q zey)), ⟨[], []⟩, [.cells 3 1, .rows 101]⟩
def zat6 : St → Option LR := L2 19 4 2 za1r .ret zaqm (.exit 0) zaqn (fun s => zab s.1 s.2.1 s.2.2.1 s.2.2.2)
theorem za1s : zu (zy78).env 2 (sub zc78 [0, 1, 0, 1]) zat6 :=
  zra (A := za1q) zh78 Facts.mix trivial (k := zcw (sub zc78 [0, 1, 0, 1])) (by kernel_rfl) rfl rfl (by rintro ⟨x0, x1, x2, x3⟩; kernel_rfl)
def za78 : Ann := ⟨[([0, 1, 0, 1], zat6)], [], [], zv78, []⟩
def zbg (a0 : Int) (a1 : (List Asked)) : Tr (Int × Int × (List Asked)) :=
  (.two (zbu ((a1.length : Nat) : Int) 0 a0 a1) (fun v2 =>
    (.leaf (v2.1, v2.2.1, v2.2.2))) (fun v3 =>
    (.leaf (-1, v3.1, v3.2))))
def zbb (a0 : Int) (a1 : (List Asked)) : Option (Int × Int × (List Asked)) := (zbg a0 a1).run
def zr78 : LQ (Int × (List Asked)) := (LQ.skip (LQ.const (.own 1)) (LQ.skip (LQ.const (.fn 137 [.ptr 0 0])) (LQ.seq (Par.q intP) (Par.q zey))))
def zfc : LQ (Int × Int × (List Asked)) := (LQ.seq (Par.q intP) (LQ.seq (Par.q intP) (Par.q zey)))
def zfj : SpecT := zt 2 zr78 2 [.cells 3 1, .rows 101] (fun s => zbg s.1 s.2) default zfc 1 [.cells 3 1, .rows 101]
theorem zll : zg Tryz.prog 75 (zfj).spec :=
  zd (A := za78) zh78 Facts.mix Tryz.func75 (c := zc78) (by kernel_rfl) (Lc := 2) ⟨za1s, trivial⟩ zr78 2 4 [.cells 3 1, .rows 101] (fun s => zbg s.1 s.2) default zfc 1 [.cells 3 1, .rows 101] [] (by decide) (by kernel_rfl) (by rfl) (by decide) (by decide) (by rfl)
    (by rintro ⟨a0, a1⟩; kernel_rfl)
noncomputable def zc79 : Code := Tryz.f136.body.getD .skip
def zv79 : List (List Nat) := [[0, 1], [0, 1, 5], [0, 1, 5, 12], [4], [0, 1, 5, 6], [0, 1, 5, 6, 19], [0, 1, 5, 6], [0, 1, 5, 6, 7], [0, 1, 5, 6, 7, 29], [0, 1, 5, 6], [0, 1, 5, 6], [0, 5], [4]]
noncomputable def zy79 : EnvT := ⟨Tryz.prog, zq [(75, zfj), (137, zjk)]⟩
theorem zh79 : (zy79).Ok := zc ⟨zll, zno, trivial⟩
def zat7 : St → Option LR := clearL 0 5 36 37 38
theorem za1u : zu (zy79).env 1 (sub zc79 [0, 1, 1, 1, 1]) zat7 :=
  zali (T := 59) (E := 101) (z := (zj Tryz.prog (zeroValue 101)).getD undef) (by kernel_rfl) (by kernel_rfl) (by kernel_rfl) (by kernel_rfl) (by decide) (by decide) (by kernel_rfl) (by kernel_rfl) (by kernel_rfl) (by kernel_rfl)
def zaf (x0 : Int) (x1 : Int) (x2 : Int) (x3 : (List Asked)) : Tr ((Int × Int × Int × (List Asked)) ⊕ (Int × Int × (List Asked))) :=
  (.ite (decide (x1 < ((x3.length : Nat) : Int)))
    (.guard ((0 : Int) ≤ x1 ∧ x1 < ((Sl.len (.asked x3) : Nat) : Int))
    (.bind (zew (x3.getD x1.toNat default) x2) fun v2 =>
    (.ite (!v2.1)
      (.guard ((0 : Int) ≤ x0 ∧ x0 < ((Sl.len (.asked x3) : Nat) : Int))
      (.leaf (.inl (IntKind.i64.wrap (x0 + 1), IntKind.i64.wrap (x1 + 1), v2.2, x3.set x0.toNat (x3.getD x1.toNat default)))))
      (.leaf (.inl (x0, IntKind.i64.wrap (x1 + 1), v2.2, x3))))))
    (.leaf (.inr (x0, x2, x3))))
def zb1 (x0 : Int) (x1 : Int) (x2 : Int) (x3 : (List Asked)) : Option (Int × Int × (List Asked)) := zel (fun s : Int × Int × Int × (List Asked) => (zaf s.1 s.2.1 s.2.2.1 s.2.2.2).run) (x0, x1, x2, x3)
def za1v : Ann := ⟨[], [], [], zv79, []⟩
def za1w : EndD (Int × Int × Int × (List Asked)) := ⟨(LQ.skip (LQ.const (.own 1)) (LQ.skip (LQ.const (.fn 137 [.ptr 0 0])) (LQ.seq (Par.q intP) (LQ.seq (Par.q intP) (LQ.seq (Par.q intP) (Par.q zey)))))), ⟨[0, 1, 5, 6], [.nilown 0 101 (.asked [])]⟩, [.cells 3 1, .rows 101]⟩
def zaqo : EndD (Int × Int × (List Asked)) := ⟨(LQ.skip (LQ.const (.own 1)) (LQ.seq (Par.q intP) (LQ.seq (Par.q intP) (Par.q zey)))), ⟨[0, 5], [.nilown 0 101 (.asked [])]⟩, [.cells 3 1, .rows 101]⟩
def zat8 : St → Option LR := L1 42 5 1 za1w (.exit 0) zaqo (fun s => zaf s.1 s.2.1 s.2.2.1 s.2.2.2)
theorem za1x : zu (zy79).env 1 (sub zc79 [0, 1, 0, 1, 1, 1]) zat8 :=
  zjd (A := za1v) zh79 Facts.mix trivial (k := zcw (sub zc79 [0, 1, 0, 1, 1, 1])) (by kernel_rfl) rfl (by rintro ⟨x0, x1, x2, x3⟩; kernel_rfl)
def za79 : Ann := ⟨[([0, 1, 0, 1, 1, 1], zat8), ([0, 1, 1, 1, 1], zat7)], [], [], zv79, []⟩
def zbn (a0 : Int) (a1 : (List Asked)) : Tr (Int × (List Asked)) :=
  (.bind (zbb a0 a1) fun v1 =>
  (.ite (v1.1 == (-1))
    (.leaf (v1.2.1, v1.2.2))
    (.bind (zb1 v1.1 (IntKind.i64.wrap (v1.1 + 1)) v1.2.1 v1.2.2) fun v3 =>
    (.bind (zaae v3.2.2 v3.1) fun v4 =>
    (.guard ((0 : Int) ≤ v3.1 ∧ v3.1 ≤ ((Sl.len (.asked v4) : Nat) : Int))
    (.leaf (v3.2.1, ((v4.drop 0).take (v3.1.toNat - 0)))))))))
def zct (a0 : Int) (a1 : (List Asked)) : Option (Int × (List Asked)) := (zbn a0 a1).run
def zr79 : LQ (Int × (List Asked)) := (LQ.skip (LQ.const (.own 1)) (LQ.skip (LQ.const (.fn 137 [.ptr 0 0])) (LQ.seq (Par.q intP) (Par.q zey))))
def zfk : LQ (Int × (List Asked)) := (LQ.skip (LQ.const (.own 1)) (LQ.seq (Par.q intP) (Par.q zey)))
def zf9 : SpecT := zt 1 zr79 2 [.cells 3 1, .rows 101] (fun s => zbn s.1 s.2) default zfk 1 [.cells 3 1, .rows 101]
theorem zmy : zg Tryz.prog 136 (zf9).spec :=
  zd (A := za79) zh79 Facts.mix Tryz.func136 (c := zc79) (by kernel_rfl) (Lc := 1) ⟨za1x, za1u, trivial⟩ zr79 2 5 [.cells 3 1, .rows 101] (fun s => zbn s.1 s.2) default zfk 1 [.cells 3 1, .rows 101] [.nilown 4 101 (.asked [])] (by decide) (by kernel_rfl) (by rfl) (by decide) (by decide) (by rfl)
    (by rintro ⟨a0, a1⟩; kernel_rfl)
noncomputable def zc80 : Code := Tryz.f110.body.getD .skip
def zv80 : List (List Nat) := [[2, 3, 4], [2, 3, 4, 23], [4], [2, 3, 4], [2, 3, 4], [2, 3, 4], [2, 4], [4]]
noncomputable def zy80 : EnvT := ⟨Tryz.prog, zq [(25, zb0), (121, zpb), (134, zez), (136, zf9)]⟩
theorem zh80 : (zy80).Ok := zc ⟨zca, zty, zin, zmy, trivial⟩
def za80 : Ann := ⟨[], [], [], zv80, []⟩
def zht (a0 : za) (a1 : Int) : Tr (za) :=
  (.bind (zay a0) fun v1 =>
  (.guard (((((!v1) || (decide (a1 < 0))) || (decide (a1 ≥ 2))) = false → ((0 : Int) ≤ a1 ∧ (a1 : Int) < 2) ∧ True))
  (.ite ((((!v1) || (decide (a1 < 0))) || (decide (a1 ≥ 2))) || (!(a0.Links.On.get a1)))
    (.leaf a0)
    (.guard ((0 : Int) ≤ a1 ∧ (a1 : Int) < 2)
    (.guard ((0 : Int) ≤ a1 ∧ (a1 : Int) < 2)
    (.guard ((0 : Int) ≤ a1 ∧ (a1 : Int) < 2)
    (.guard ((0 : Int) ≤ a1 ∧ (a1 : Int) < 2)
    (.guard ((0 : Int) ≤ a1 ∧ (a1 : Int) < 2)
    (.bind (zf3 a0.Stake a1 1099511627776) fun v2 =>
    (.bind (zan a0.Queue) fun v3 =>
    (.bind (zct a1 v3) fun v4 =>
    (.leaf ({ (a0 : za) with Stake := v2, Links := { (a0.Links : Links) with On := (a0.Links.On.set a1 false), Gone := (a0.Links.Gone.set a1 true), Fresh := (a0.Links.Fresh.set a1 false), Done := (a0.Links.Done.set a1 []), Closed := (a0.Links.Closed.set a1 true) }, Queue := v4.2 })))))))))))))
def zdd (a0 : za) (a1 : Int) : Option (za) := (zht a0 a1).run
def zr80 : LQ (za × Int) := (LQ.seq (Par.q (Par.ofLP providerL)) (Par.q intP))
def zqz : LQ (za) := (Par.q (Par.ofLP providerL))
def zsh : SpecT := zt 0 zr80 2 [] (fun s => zht s.1 s.2) default zqz 1 []
theorem z0n : zg Tryz.prog 110 (zsh).spec :=
  zd (A := za80) zh80 Facts.mix Tryz.func110 (c := zc80) (by kernel_rfl) (Lc := 0) trivial zr80 2 7 [] (fun s => zht s.1 s.2) default zqz 1 [] [.pubB 4] (by decide) (by kernel_rfl) (by rfl) (by decide) (by decide) (by rfl)
    (by rintro ⟨a0, a1⟩; kernel_rfl)
noncomputable def zc81 : Code := Tryz.f107.body.getD .skip
def zv81 : List (List Nat) := [[1, 2, 3, 6], [1, 3, 6, 8, 9], [1, 3, 6, 8, 9, 15], [6, 7], [1, 3, 6, 8, 9, 20], [6, 7], [1, 3, 6, 8, 9, 36], [6, 7], [1, 3, 6, 8, 41], [6, 7], [3, 6], [6, 7]]
noncomputable def zy81 : EnvT := ⟨Tryz.prog, zq [(37, zri), (25, zb0), (134, zez)]⟩
theorem zh81 : (zy81).Ok := zc ⟨zu7, zca, zin, trivial⟩
def za81 : Ann := ⟨[], [], [], zv81, []⟩
def zkk (a0 : za) (a1 : Int) (a2 : ByteArray) : Tr (za × Int) :=
  (.bind (ze4 a2) fun v1 =>
  (.bind (zay a0) fun v2 =>
  (.ite (!v2)
    (.leaf (a0, 2))
    (.guard ((((decide (a1 < 0)) || (decide (a1 ≥ 2))) = false → ((0 : Int) ≤ a1 ∧ (a1 : Int) < 2) ∧ True))
    (.ite (((decide (a1 < 0)) || (decide (a1 ≥ 2))) || (!(a0.Links.On.get a1)))
      (.leaf (a0, 4))
      (.ite (v1.2 != 0)
        (.leaf (a0, v1.2))
        (.ite (v1.1.Kind == 1)
          (.leaf (a0, 3))
          (.guard ((zan a0.Queue).isSome = true)
          (.guard ((Sl.len (.asked ((zan a0.Queue).getD default)) + Sl.len (.asked [(⟨a1, v1.1⟩ : Asked)])) * 88 ≤ 140737488355328)
          (.leaf ({ (a0 : za) with Queue := ((zan a0.Queue).getD default) ++ [(⟨a1, v1.1⟩ : Asked)] }, 0)))))))))))
def zaz (a0 : za) (a1 : Int) (a2 : ByteArray) : Option (za × Int) := (zkk a0 a1 a2).run
def zr81 : LQ (za × Int × ByteArray) := (LQ.seq (Par.q (Par.ofLP providerL)) (LQ.seq (Par.q intP) (Par.q strP)))
def zt6 : LQ (za × Int) := (LQ.seq (Par.q (Par.ofLP providerL)) (Par.q intP))
def zvj : SpecT := zt 0 zr81 3 [] (fun s => zkk s.1 s.2.1 s.2.2) default zt6 2 []
theorem z2q : zg Tryz.prog 107 (zvj).spec :=
  zd (A := za81) zh81 Facts.mix Tryz.func107 (c := zc81) (by kernel_rfl) (Lc := 0) trivial zr81 3 8 [] (fun s => zkk s.1 s.2.1 s.2.2) default zt6 2 [] [.pubB 6] (by decide) (by kernel_rfl) (by rfl) (by decide) (by decide) (by rfl)
    (by rintro ⟨a0, a1, a2⟩; kernel_rfl)
noncomputable def zc82 : Code := Tryz.f63.body.getD .skip
def zv82 : List (List Nat) := [[1, 2, 3, 6], [1, 2, 3, 6, 11], [6, 7], [1, 2, 3, 6, 16], [6, 7], [1, 2, 3, 6, 24], [6, 7], [1, 2, 3, 6, 34], [6, 7], [1, 3, 6, 8, 10], [1, 3, 6, 8, 10, 52], [6, 7], [3, 6, 8, 10], [3, 6, 8, 10, 62], [6, 7], [3, 6], [6, 7]]
noncomputable def zy82 : EnvT := ⟨Tryz.prog, zq [(25, zb0), (79, ztg), (80, zva)]⟩
theorem zh82 : (zy82).Ok := zc ⟨zca, zxs, z0e, trivial⟩
def za82 : Ann := ⟨[], [], [], zv82, []⟩
def zfx (a0 : za) (a1 : Int) (a2 : Int) : Tr (za × Int) :=
  (.bind (zay a0) fun v1 =>
  (.ite (!v1)
    (.leaf (a0, 2))
    (.ite ((decide (a1 < 0)) || (decide (a1 ≥ 6)))
      (.leaf (a0, 4))
      (.ite ((decide (a2 < 1)) || (decide (a2 > a0.Height)))
        (.leaf (a0, 2))
        (.guard ((0 : Int) ≤ a1 ∧ (a1 : Int) < 6)
        (.ite (a0.Stake.Validators.Dead.get a1)
          (.leaf (a0, 15))
          (.bind (zgg a0.Stake a1 a2 50) fun v2 =>
          (.ite (v2.2.2 != 0)
            (.leaf (a0, v2.2.2))
            (.bind (zka v2.1 a1) fun v3 =>
            (.ite (v3.2 != 0)
              (.leaf (a0, v3.2))
              (.leaf ({ (a0 : za) with Stake := v3.1 }, 0))))))))))))
def zid (a0 : za) (a1 : Int) (a2 : Int) : Option (za × Int) := (zfx a0 a1 a2).run
def zr82 : LQ (za × Int × Int) := (LQ.seq (Par.q (Par.ofLP providerL)) (LQ.seq (Par.q intP) (Par.q intP)))
def znp : LQ (za × Int) := (LQ.seq (Par.q (Par.ofLP providerL)) (Par.q intP))
def zpl : SpecT := zt 0 zr82 3 [] (fun s => zfx s.1 s.2.1 s.2.2) default znp 2 []
theorem zw4 : zg Tryz.prog 63 (zpl).spec :=
  zd (A := za82) zh82 Facts.mix Tryz.func63 (c := zc82) (by kernel_rfl) (Lc := 0) trivial zr82 3 5 [] (fun s => zfx s.1 s.2.1 s.2.2) default znp 2 [] [.pubB 6] (by decide) (by kernel_rfl) (by rfl) (by decide) (by decide) (by rfl)
    (by rintro ⟨a0, a1, a2⟩; kernel_rfl)
noncomputable def zc83 : Code := Tryz.f101.body.getD .skip
def zv83 : List (List Nat) := [[0, 2, 6], [0, 2, 6, 7], [0, 2, 6, 7, 49], [0, 2, 6, 8, 9], [0, 2, 6, 8, 65], [0, 6, 9, 10], [0, 6, 10, 78], []]
noncomputable def zy83 : EnvT := ⟨Tryz.prog, zq [(132, z2c), (28, zl3), (133, z1c), (102, zd2)]⟩
theorem zh83 : (zy83).Ok := zc ⟨z83, zo9, z4e, zg2, trivial⟩
def za83 : Ann := ⟨[], [], [], zv83, []⟩
def zkl (a0 : Int) (a1 : Int) (a2 : za) : Tr (za) :=
  (.guard ((0 : Int) ≤ a0 ∧ (a0 : Int) < 2)
  (.guard ((zed (a2.Links.Told.get a0) a2.Set).isSome = true)
  (.ite ((!(a2.Links.On.get a0)) || (((((((zed (a2.Links.Told.get a0) a2.Set).getD default).length : Nat) : Int) == 0) && (!(a2.Links.Fresh.get a0))) && ((((a2.Links.Done.get a0).length : Nat) : Int) == 0)))
    (.leaf a2)
    (.guard ((zbi (⟨1, a2.Height, 0, 0, ((zed (a2.Links.Told.get a0) a2.Set).getD default), a2.Links.Done.get a0⟩ : Packet)).isSome = true)
    (.ite ((((zbi (⟨1, a2.Height, 0, 0, ((zed (a2.Links.Told.get a0) a2.Set).getD default), a2.Links.Done.get a0⟩ : Packet)).getD default).2) != 0)
      (.leaf a2)
      (.bind (ztc (⟨a2.Links.Said.get a0, a2.Links.Due.get a0, a2.Links.Got.get a0, a2.Links.Closed.get a0⟩ : zes) (((zbi (⟨1, a2.Height, 0, 0, ((zed (a2.Links.Told.get a0) a2.Set).getD default), a2.Links.Done.get a0⟩ : Packet)).getD default).1) (IntKind.i64.wrap (a1 + 40))) fun v1 =>
      (.ite (v1.2 != 0)
        (.leaf a2)
        (.guard ((zah a2.Set).isSome = true)
        (.leaf ({ (a2 : za) with Links := { (a2.Links : Links) with Told := (a2.Links.Told.set a0 ((zah a2.Set).getD default)), Fresh := (a2.Links.Fresh.set a0 false), Done := (a2.Links.Done.set a0 []), Said := (a2.Links.Said.set a0 v1.1.Said), Due := (a2.Links.Due.set a0 v1.1.Due), Got := (a2.Links.Got.set a0 v1.1.Got), Closed := (a2.Links.Closed.set a0 v1.1.Closed) } }))))))))))
def zi7 (a0 : Int) (a1 : Int) (a2 : za) : Option (za) := (zkl a0 a1 a2).run
def zr83 : LQ (Int × Int × za) := (LQ.skip (LQ.const (.ptr 0 0)) (LQ.seq (Par.q intP) (LQ.seq (Par.q intP) (LP.q providerL))))
def zt7 : LQ (za) := (LP.q providerL)
def zvk : SpecT := zt 1 zr83 3 [.cells 61 97] (fun s => zkl s.1 s.2.1 s.2.2) default zt7 0 [.cells 61 97]
theorem z2r : zg Tryz.prog 101 (zvk).spec :=
  zd (A := za83) zh83 Facts.mix Tryz.func101 (c := zc83) (by kernel_rfl) (Lc := 1) trivial zr83 3 4 [.cells 61 97] (fun s => zkl s.1 s.2.1 s.2.2) default zt7 0 [.cells 61 97] [.pubN 0] (by decide) (by kernel_rfl) (by rfl) (by decide) (by decide) (by rfl)
    (by rintro ⟨a0, a1, a2⟩; kernel_rfl)
noncomputable def zc84 : Code := Tryz.f152.body.getD .skip
def zv84 : List (List Nat) := [[0], [2]]
noncomputable def zy84 : EnvT := ⟨Tryz.prog, zq []⟩
theorem zh84 : (zy84).Ok := zc trivial
def za84 : Ann := ⟨[], [], [], zv84, []⟩
def zkm (a0 : Int) : Tr (Bool) :=
  (.leaf (a0 != a0))
def zga (a0 : Int) : Option (Bool) := (zkm a0).run
def zr84 : LQ (Int) := (Par.q intP)
def zt8 : LQ (Bool) := (Par.q boolP)
def zvl : SpecT := zt 0 zr84 1 [] (fun s => zkm s) default zt8 1 []
theorem z2s : zg Tryz.prog 152 (zvl).spec :=
  zd (A := za84) zh84 Facts.mix Tryz.func152 (c := zc84) (by kernel_rfl) (Lc := 0) trivial zr84 1 2 [] (fun s => zkm s) default zt8 1 [] [] (by decide) (by kernel_rfl) (by rfl) (by decide) (by decide) (by rfl)
    (by rintro a0; kernel_rfl)
noncomputable def zc85 : Code := Tryz.f140.body.getD .skip
def zv85 : List (List Nat) := [[0, 1], [4]]
noncomputable def zy85 : EnvT := ⟨Tryz.prog, zq [(152, zvl)]⟩
theorem zh85 : (zy85).Ok := zc ⟨z2s, trivial⟩
def za85 : Ann := ⟨[], [], [], zv85, []⟩
def zmb (a0 : Int) (a1 : Int) : Tr (Bool) :=
  (.bind (zga a0) fun v1 =>
  (.guard ((v1 = true → ((zga a1).isSome = true) ∧ True))
  (.leaf ((v1 && (!((zga a1).getD default))) || (decide (a0 < a1))))))
def zpm (a0 : Int) (a1 : Int) : Option (Bool) := (zmb a0 a1).run
def zr85 : LQ (Int × Int) := (LQ.seq (Par.q intP) (Par.q intP))
def zvm : LQ (Bool) := (Par.q boolP)
def zxy : SpecT := zt 0 zr85 2 [] (fun s => zmb s.1 s.2) default zvm 1 []
theorem z4q : zg Tryz.prog 140 (zxy).spec :=
  zd (A := za85) zh85 Facts.mix Tryz.func140 (c := zc85) (by kernel_rfl) (Lc := 0) trivial zr85 2 2 [] (fun s => zmb s.1 s.2) default zvm 1 [] [] (by decide) (by kernel_rfl) (by rfl) (by decide) (by decide) (by rfl)
    (by rintro ⟨a0, a1⟩; kernel_rfl)
noncomputable def zc86 : Code := Tryz.f141.body.getD .skip
def zv86 : List (List Nat) := [[0], [2]]
noncomputable def zy86 : EnvT := ⟨Tryz.prog, zq []⟩
theorem zh86 : (zy86).Ok := zc trivial
def za86 : Ann := ⟨[], [], [], zv86, []⟩
def zgu (a0 : Int) : Tr (Bool) :=
  (.leaf (a0 != a0))
def zbq (a0 : Int) : Option (Bool) := (zgu a0).run
def zr86 : LQ (Int) := (Par.q intP)
def zpn : LQ (Bool) := (Par.q boolP)
def zq0 : SpecT := zt 0 zr86 1 [] (fun s => zgu s) default zpn 1 []
theorem zyo : zg Tryz.prog 141 (zq0).spec :=
  zd (A := za86) zh86 Facts.mix Tryz.func141 (c := zc86) (by kernel_rfl) (Lc := 0) trivial zr86 1 2 [] (fun s => zgu s) default zpn 1 [] [] (by decide) (by kernel_rfl) (by rfl) (by decide) (by decide) (by rfl)
    (by rintro a0; kernel_rfl)
noncomputable def zc87 : Code := Tryz.f124.body.getD .skip
def zv87 : List (List Nat) := [[0, 1], [0, 1, 6], [0, 1, 6, 7, 8], [0, 1, 6, 7, 8, 15], [0, 1, 6, 7, 8, 9], [0, 1, 6, 7, 8, 9, 27], [0, 1, 6, 7, 8], [0, 1, 6, 7, 8], [4, 5]]
noncomputable def zy87 : EnvT := ⟨Tryz.prog, zq [(140, zxy), (141, zq0)]⟩
theorem zh87 : (zy87).Ok := zc ⟨z4q, zyo, trivial⟩
def zbr (x0 : (List Int)) (x1 : Int) (x2 : Int) (x3 : Int) (x4 : Int) : Tr (((List Int) × Int × Int × Int × Int) ⊕ ((List Int) × Int × Int × Int)) :=
  (.ite (decide (x3 < x4))
    (.guard ((0 : Int) ≤ 1)
    (.guard ((0 : Int) ≤ (IntKind.i64.wrap (Int.fdiv (IntKind.u64.wrap (IntKind.i64.wrap (x3 + x4))) (2 ^ 1))) ∧ (IntKind.i64.wrap (Int.fdiv (IntKind.u64.wrap (IntKind.i64.wrap (x3 + x4))) (2 ^ 1))) < ((Sl.len (.ints x0) : Nat) : Int))
    (.bind (zpm (x0.getD ((IntKind.i64.wrap (Int.fdiv (IntKind.u64.wrap (IntKind.i64.wrap (x3 + x4))) (2 ^ 1))).toNat) 0) x1) fun v1 =>
    (.ite (v1)
      (.leaf (.inl (x0, x1, x2, IntKind.i64.wrap ((IntKind.i64.wrap (Int.fdiv (IntKind.u64.wrap (IntKind.i64.wrap (x3 + x4))) (2 ^ 1))) + 1), x4)))
      (.leaf (.inl (x0, x1, x2, x3, IntKind.i64.wrap (Int.fdiv (IntKind.u64.wrap (IntKind.i64.wrap (x3 + x4))) (2 ^ 1)))))))))
    (.leaf (.inr (x0, x1, x2, x3))))
def zgb (x0 : (List Int)) (x1 : Int) (x2 : Int) (x3 : Int) (x4 : Int) : Option ((List Int) × Int × Int × Int) := zel (fun s : (List Int) × Int × Int × Int × Int => (zbr s.1 s.2.1 s.2.2.1 s.2.2.2.1 s.2.2.2.2).run) (x0, x1, x2, x3, x4)
def za1z : Ann := ⟨[], [], [], zv87, []⟩
def za2a : EndD ((List Int) × Int × Int × Int × Int) := ⟨(LQ.seq (Par.q zgz) (LQ.seq (Par.q intP) (LQ.seq (Par.q intP) (LQ.seq (Par.q intP) (Par.q intP))))), ⟨[0, 1, 6, 7, 8], [.pub 0, .nilsl 0 (.ints [])]⟩, []⟩
def zaqp : EndD ((List Int) × Int × Int × Int) := ⟨(LQ.seq (Par.q zgz) (LQ.seq (Par.q intP) (LQ.seq (Par.q intP) (Par.q intP)))), ⟨[0, 1, 6, 7], [.pub 0, .nilsl 0 (.ints [])]⟩, []⟩
def zat9 : St → Option LR := L1 54 2 0 za2a (.exit 0) zaqp (fun s => zbr s.1 s.2.1 s.2.2.1 s.2.2.2.1 s.2.2.2.2)
theorem za2b : zu (zy87).env 0 (sub zc87 [0, 0, 1, 1, 1]) zat9 :=
  zjd (A := za1z) zh87 Facts.mix trivial (k := zcw (sub zc87 [0, 0, 1, 1, 1])) (by kernel_rfl) rfl (by rintro ⟨x0, x1, x2, x3, x4⟩; kernel_rfl)
def za87 : Ann := ⟨[([0, 0, 1, 1, 1], zat9)], [], [], zv87, []⟩
def zco (a0 : (List Int)) (a1 : Int) : Tr (Int × Bool) :=
  (.bind (zgb a0 a1 ((a0.length : Nat) : Int) 0 ((a0.length : Nat) : Int)) fun v2 =>
  (.guard (((decide (v2.2.2.2 < v2.2.2.1)) = true → ((0 : Int) ≤ v2.2.2.2 ∧ v2.2.2.2 < ((Sl.len (.ints v2.1) : Nat) : Int)) ∧ True))
  (.guard ((((v2.1.getD v2.2.2.2.toNat 0) == v2.2.1) = false → ((decide (v2.2.2.2 < v2.2.2.1)) = true → ((0 : Int) ≤ v2.2.2.2 ∧ v2.2.2.2 < ((Sl.len (.ints v2.1) : Nat) : Int)) ∧ True)))
  (.guard ((((v2.1.getD v2.2.2.2.toNat 0) == v2.2.1) = false → ((decide (v2.2.2.2 < v2.2.2.1)) = true → ((zbq (v2.1.getD v2.2.2.2.toNat 0)).isSome = true) ∧ True)))
  (.guard ((((zbq (v2.1.getD v2.2.2.2.toNat 0)).getD default) = true → (((v2.1.getD v2.2.2.2.toNat 0) == v2.2.1) = false → ((decide (v2.2.2.2 < v2.2.2.1)) = true → ((zbq v2.2.1).isSome = true) ∧ True))))
  (.leaf (v2.2.2.2, (decide (v2.2.2.2 < v2.2.2.1)) && (((v2.1.getD v2.2.2.2.toNat 0) == v2.2.1) || (((zbq (v2.1.getD v2.2.2.2.toNat 0)).getD default) && ((zbq v2.2.1).getD default))))))))))
def zp (a0 : (List Int)) (a1 : Int) : Option (Int × Bool) := (zco a0 a1).run
def zr87 : LQ ((List Int) × Int) := (LQ.seq (Par.q zgz) (Par.q intP))
def zhz : LQ (Int × Bool) := (LQ.seq (Par.q intP) (Par.q boolP))
def ziv : SpecT := zt 0 zr87 2 [] (fun s => zco s.1 s.2) default zhz 2 []
theorem zp1 : zg Tryz.prog 124 (ziv).spec :=
  zd (A := za87) zh87 Facts.mix Tryz.func124 (c := zc87) (by kernel_rfl) (Lc := 0) ⟨za2b, trivial⟩ zr87 2 2 [] (fun s => zco s.1 s.2) default zhz 2 [] [] (by decide) (by kernel_rfl) (by rfl) (by decide) (by decide) (by rfl)
    (by rintro ⟨a0, a1⟩; kernel_rfl)
noncomputable def zc88 : Code := Tryz.f98.body.getD .skip
def zv88 : List (List Nat) := [[0, 3], [0, 3, 5], [0, 3, 5, 6], [0, 3, 5, 6, 28], [0, 3, 5, 6, 28, 29], [], [0, 3, 5, 6, 28, 44], [0, 3, 5, 6, 48], [0, 3, 6, 7, 8], [0, 3, 6, 7, 62], [4], [0, 3, 6], [3, 6], [3, 6, 9, 10], [3, 6, 9, 93], [], [0, 3, 5, 6, 108], [0, 3, 6, 112], [0, 3], [], [4]]
noncomputable def zy88 : EnvT := ⟨Tryz.prog, zq [(121, zpb), (122, z16), (123, z2b), (124, ziv), (126, zj2), (125, F_slices_Insert_int), (79, ztg), (80, zva)]⟩
theorem zh88 : (zy88).Ok := zc ⟨zty, z81, z82, zp1, zo6, zwz, zxs, z0e, trivial⟩
def za88 : Ann := ⟨[], [], [], zv88, []⟩
def zkn (a0 : Asked) (a1 : za) : Tr (Bool × za) :=
  (.guard ((0 : Int) ≤ a0.P.V ∧ (a0.P.V : Int) < 6)
  (.guard ((0 : Int) ≤ a0.C ∧ (a0.C : Int) < 2)
  (.ite (a0.P.Kind == 2)
    (.guard ((zf3 a1.Stake a0.C a0.P.Id).isSome = true)
    (.leaf (true, { (a1 : za) with Stake := ((zf3 a1.Stake a0.C a0.P.Id).getD default) })))
    (.ite (a0.P.Kind == 3)
      (.ite (!(a1.Stake.Validators.Jailed.get a0.P.V))
        (.guard ((100 : Int) ≠ 0)
        (.guard ((zhj a1.Meter (if (IntKind.i64.wrap (Int.tdiv (a1.Stake.Validators.Tokens.get a0.P.V) 100)) > 1 then (IntKind.i64.wrap (Int.tdiv (a1.Stake.Validators.Tokens.get a0.P.V) 100)) else 1)).isSome = true)
        (.ite (!(((zhj a1.Meter (if (IntKind.i64.wrap (Int.tdiv (a1.Stake.Validators.Tokens.get a0.P.V) 100)) > 1 then (IntKind.i64.wrap (Int.tdiv (a1.Stake.Validators.Tokens.get a0.P.V) 100)) else 1)).getD default).2))
          (.leaf (false, a1))
          (.guard ((zj9 a1.Stake a0.P.V).isSome = true)
          (.guard ((zp (a1.Links.Done.get a0.C) a0.P.V).isSome = true)
          (.ite (!(((zp (a1.Links.Done.get a0.C) a0.P.V).getD default).2))
            (.guard ((z6 (a1.Links.Done.get a0.C)).isSome = true)
            (.guard ((zb5 ((z6 (a1.Links.Done.get a0.C)).getD default) (((zp (a1.Links.Done.get a0.C) a0.P.V).getD default).1) [a0.P.V]).isSome = true)
            (.leaf (true, { (a1 : za) with Stake := (((zj9 a1.Stake a0.P.V).getD default).1), Links := { (a1.Links : Links) with Done := (a1.Links.Done.set a0.C ((zb5 ((z6 (a1.Links.Done.get a0.C)).getD default) (((zp (a1.Links.Done.get a0.C) a0.P.V).getD default).1) [a0.P.V]).getD default)) }, Meter := (((zhj a1.Meter (if (IntKind.i64.wrap (Int.tdiv (a1.Stake.Validators.Tokens.get a0.P.V) 100)) > 1 then (IntKind.i64.wrap (Int.tdiv (a1.Stake.Validators.Tokens.get a0.P.V) 100)) else 1)).getD default).1) }))))
            (.leaf (true, { (a1 : za) with Stake := (((zj9 a1.Stake a0.P.V).getD default).1), Meter := (((zhj a1.Meter (if (IntKind.i64.wrap (Int.tdiv (a1.Stake.Validators.Tokens.get a0.P.V) 100)) > 1 then (IntKind.i64.wrap (Int.tdiv (a1.Stake.Validators.Tokens.get a0.P.V) 100)) else 1)).getD default).1) }))))))))
        (.guard ((zp (a1.Links.Done.get a0.C) a0.P.V).isSome = true)
        (.ite (!(((zp (a1.Links.Done.get a0.C) a0.P.V).getD default).2))
          (.guard ((z6 (a1.Links.Done.get a0.C)).isSome = true)
          (.guard ((zb5 ((z6 (a1.Links.Done.get a0.C)).getD default) (((zp (a1.Links.Done.get a0.C) a0.P.V).getD default).1) [a0.P.V]).isSome = true)
          (.leaf (true, { (a1 : za) with Links := { (a1.Links : Links) with Done := (a1.Links.Done.set a0.C ((zb5 ((z6 (a1.Links.Done.get a0.C)).getD default) (((zp (a1.Links.Done.get a0.C) a0.P.V).getD default).1) [a0.P.V]).getD default)) } }))))
          (.leaf (true, a1)))))
      (.ite (a0.P.Kind == 4)
        (.ite (!(a1.Stake.Validators.Dead.get a0.P.V))
          (.guard ((zgg a1.Stake a0.P.V (if (a1.Links.Base.get a0.C) > a0.P.Id then (a1.Links.Base.get a0.C) else a0.P.Id) 50).isSome = true)
          (.guard ((zka (((zgg a1.Stake a0.P.V (if (a1.Links.Base.get a0.C) > a0.P.Id then (a1.Links.Base.get a0.C) else a0.P.Id) 50).getD default).1) a0.P.V).isSome = true)
          (.leaf (true, { (a1 : za) with Stake := (((zka (((zgg a1.Stake a0.P.V (if (a1.Links.Base.get a0.C) > a0.P.Id then (a1.Links.Base.get a0.C) else a0.P.Id) 50).getD default).1) a0.P.V).getD default).1) }))))
          (.leaf (true, a1)))
        (.leaf (true, a1)))))))
def znh (a0 : Asked) (a1 : za) : Option (Bool × za) := (zkn a0 a1).run
def zr88 : LQ (Asked × za) := (LQ.skip (LQ.const (.ptr 0 0)) (LQ.seq (Par.q (Par.ofLP zahs)) (LP.q providerL)))
def zt9 : LQ (Bool × za) := (LQ.seq (Par.q boolP) (LP.q providerL))
def zvn : SpecT := zt 1 zr88 2 [.cells 61 97] (fun s => zkn s.1 s.2) default zt9 1 [.cells 61 97]
theorem z2t : zg Tryz.prog 98 (zvn).spec :=
  zd (A := za88) zh88 Facts.mix Tryz.func98 (c := zc88) (by kernel_rfl) (Lc := 1) trivial zr88 2 9 [.cells 61 97] (fun s => zkn s.1 s.2) default zt9 1 [.cells 61 97] [.pubN 0] (by decide) (by kernel_rfl) (by rfl) (by decide) (by decide) (by rfl)
    (by rintro ⟨a0, a1⟩; kernel_rfl)
noncomputable def zc89 : Code := Tryz.f81.body.getD .skip
def zv89 : List (List Nat) := [[1, 2, 4], [1, 2, 4, 27], [4, 5, 6], [1, 2, 4], [1, 2, 4], [1, 2, 4, 7], [1, 2, 4, 7, 8], [1, 2, 4, 7, 8, 44, 45, 46], [1, 2, 4, 7, 8, 44, 45, 46, 47], [1, 2, 4, 7, 8, 10, 44, 45, 46], [1, 2, 4, 7, 8, 10, 44, 45, 46, 58], [1, 2, 4, 7, 8, 10, 44, 45, 46], [1, 2, 4, 7, 8, 44, 45, 46], [1, 2, 4, 7, 8, 44, 45, 46], [1, 2, 4], [1, 2, 4, 11, 12, 13], [1, 2, 4, 11, 12, 13, 78], [4, 5, 6], [1, 2, 4, 12], [1, 2, 4, 12], [1, 2, 4, 12, 87], [1, 2, 4, 12, 87, 88], [1, 2, 4, 12, 14, 87], [1, 2, 4, 12, 87], [1, 2, 4, 12, 87], [4, 5, 6]]
noncomputable def zy89 : EnvT := ⟨Tryz.prog, zq [(25, zb0), (34, z4l), (97, z15), (98, zvn), (99, z4j), (100, z4m), (101, zvk)]⟩
theorem zh89 : (zy89).Ok := zc ⟨zca, zaas, z80, z2t, zaar, zaat, z2r, trivial⟩
def zfd (x0 : Int) (x1 : (List Asked)) (x2 : Int) (x3 : Int) (x4 : za) (x5 : za) (x6 : (A2 Bool)) (x7 : (List Asked)) : Tr ((Int × (List Asked) × Int × Int × za × za × (A2 Bool) × (List Asked)) ⊕ (Int × za × za × (List Asked))) :=
  (.ite (decide (x3 < x2))
    (.guard ((0 : Int) ≤ x3 ∧ x3 < ((Sl.len (.asked x1) : Nat) : Int))
    (.guard ((0 : Int) ≤ ((x1.getD x3.toNat default).C) ∧ (((x1.getD x3.toNat default).C) : Int) < 2)
    (.ite (x6.get ((x1.getD x3.toNat default).C))
      (.ite ((true : Bool))
        (.ite ((true : Bool))
          (.ite ((true : Bool))
            (.guard ((0 : Int) ≤ ((x1.getD x3.toNat default).C) ∧ (((x1.getD x3.toNat default).C) : Int) < 2)
            (.guard ((Sl.len (.asked x7) + Sl.len (.asked [(x1.getD x3.toNat default)])) * 88 ≤ 140737488355328)
            (.leaf (.inl (x0, x1, x2, IntKind.i64.wrap (x3 + 1), x4, x5, (x6.set ((x1.getD x3.toNat default).C) true), x7 ++ [(x1.getD x3.toNat default)])))))
            (.leaf (.inl (x0, x1, x2, IntKind.i64.wrap (x3 + 1), x4, x5, x6, x7))))
          .fail)
        .fail)
      (.bind (znh (x1.getD x3.toNat default) x4) fun v2 =>
      (.ite ((false : Bool) || (!v2.1))
        (.guard ((0 : Int) ≤ ((x1.getD x3.toNat default).C) ∧ (((x1.getD x3.toNat default).C) : Int) < 2)
        (.guard ((Sl.len (.asked x7) + Sl.len (.asked [(x1.getD x3.toNat default)])) * 88 ≤ 140737488355328)
        (.leaf (.inl (x0, x1, x2, IntKind.i64.wrap (x3 + 1), v2.2, x5, (x6.set ((x1.getD x3.toNat default).C) true), x7 ++ [(x1.getD x3.toNat default)])))))
        (.leaf (.inl (x0, x1, x2, IntKind.i64.wrap (x3 + 1), v2.2, x5, x6, x7))))))))
    (.leaf (.inr (x0, x4, x5, x7))))
def zgv (x0 : Int) (x1 : (List Asked)) (x2 : Int) (x3 : Int) (x4 : za) (x5 : za) (x6 : (A2 Bool)) (x7 : (List Asked)) : Option (Int × za × za × (List Asked)) := zel (fun s : Int × (List Asked) × Int × Int × za × za × (A2 Bool) × (List Asked) => (zfd s.1 s.2.1 s.2.2.1 s.2.2.2.1 s.2.2.2.2.1 s.2.2.2.2.2.1 s.2.2.2.2.2.2.1 s.2.2.2.2.2.2.2).run) (x0, x1, x2, x3, x4, x5, x6, x7)
def za2f : Ann := ⟨[], [], [], zv89, [(23, [9700002])]⟩
def za2g : EndD (Int × (List Asked) × Int × Int × za × za × (A2 Bool) × (List Asked)) := ⟨(LQ.seq (Par.q intP) (LQ.skip (LQ.const (.ptr 0 0)) (LQ.skip (LQ.const (.ptr 1 0)) (LQ.skip (LQ.const (.own 3)) (LQ.skip (LQ.const (.ptr 2 0)) (LQ.seq (Par.q zey) (LQ.seq (Par.q intP) (LQ.seq (Par.q intP) (LQ.seq (LP.q providerL) (LQ.seq (LP.q providerL) (LQ.seq (LP.q (a2L (LP.one boolP))) (Par.q zey)))))))))))), ⟨[1, 2, 4, 7, 8, 44, 45, 46], [.nilown 7 101 (.asked []), .pub 44, .nilsl 44 (.asked [])]⟩, [.cells 61 97, .cells 61 97, .cells 170 2, .rows 101]⟩
def zaqq : EndD (Int × za × za × (List Asked)) := ⟨(LQ.seq (Par.q intP) (LQ.skip (LQ.const (.ptr 0 0)) (LQ.skip (LQ.const (.ptr 1 0)) (LQ.skip (LQ.const (.own 2)) (LQ.seq (LP.q providerL) (LQ.seq (LP.q providerL) (Par.q zey))))))), ⟨[1, 2, 4, 7], [.nilown 7 101 (.asked [])]⟩, [.cells 61 97, .cells 61 97, .rows 101]⟩
def zaub : St → Option LR := L1 96 9 0 za2g (.exit 0) zaqq (fun s => zfd s.1 s.2.1 s.2.2.1 s.2.2.2.1 s.2.2.2.2.1 s.2.2.2.2.2.1 s.2.2.2.2.2.2.1 s.2.2.2.2.2.2.2)
theorem za2h : zu (zy89).env 0 (sub zc89 [0, 1, 0, 1, 1, 1, 1, 1, 1]) zaub :=
  zjd (A := za2f) zh89 Facts.mix trivial (k := zcw (sub zc89 [0, 1, 0, 1, 1, 1, 1, 1, 1])) (by kernel_rfl) rfl (by rintro ⟨x0, x1, x2, x3, x4, x5, x6, x7⟩; kernel_rfl)
def zfe (x0 : Int) (x1 : (List Int)) (x2 : Int) (x3 : za) (x4 : za) : Tr ((Int × (List Int) × Int × za × za) ⊕ ((List Int) × za × za)) :=
  (.ite (decide (x2 < 2))
    (.bind (zi7 x2 x0 x3) fun v6 =>
    (.leaf (.inl (x0, x1, IntKind.i64.wrap (x2 + 1), v6, x4))))
    (.leaf (.inr (x1, x3, x4))))
def zko (x0 : Int) (x1 : (List Int)) (x2 : Int) (x3 : za) (x4 : za) : Option ((List Int) × za × za) := zel (fun s : Int × (List Int) × Int × za × za => (zfe s.1 s.2.1 s.2.2.1 s.2.2.2.1 s.2.2.2.2).run) (x0, x1, x2, x3, x4)
def za2i : Ann := ⟨[], [], [], zv89, [(23, [9700002])]⟩
def za2j : EndD (Int × (List Int) × Int × za × za) := ⟨(LQ.seq (Par.q intP) (LQ.skip (LQ.const (.ptr 0 0)) (LQ.skip (LQ.const (.ptr 1 0)) (LQ.seq (Par.q zgz) (LQ.seq (Par.q intP) (LQ.seq (LP.q providerL) (LP.q providerL))))))), ⟨[1, 2, 4, 12, 87], [.pubC 2 96, .pub 12, .nilsl 12 (.ints [])]⟩, [.cells 61 97, .cells 61 97]⟩
def zaqr : EndD ((List Int) × za × za) := ⟨(LQ.skip (LQ.const (.ptr 0 0)) (LQ.skip (LQ.const (.ptr 1 0)) (LQ.seq (Par.q zgz) (LQ.seq (LP.q providerL) (LP.q providerL))))), ⟨[2, 4, 12], [.pubC 2 96, .pub 12, .nilsl 12 (.ints [])]⟩, [.cells 61 97, .cells 61 97]⟩
def zauc : St → Option LR := L1 96 9 0 za2j (.exit 2) zaqr (fun s => zfe s.1 s.2.1 s.2.2.1 s.2.2.2.1 s.2.2.2.2)
theorem za2k : zu (zy89).env 0 (sub zc89 [0, 1, 0, 1, 1, 1, 1, 1, 1, 1, 1, 1, 1, 1, 1]) zauc :=
  zjd (A := za2i) zh89 Facts.mix trivial (k := zcw (sub zc89 [0, 1, 0, 1, 1, 1, 1, 1, 1, 1, 1, 1, 1, 1, 1])) (by kernel_rfl) rfl (by rintro ⟨x0, x1, x2, x3, x4⟩; kernel_rfl)
def za89 : Ann := ⟨[([0, 1, 0, 1, 1, 1, 1, 1, 1], zaub), ([0, 1, 0, 1, 1, 1, 1, 1, 1, 1, 1, 1, 1, 1, 1], zauc)], [], [], zv89, [(23, [9700002])]⟩
def zmc (a0 : za) (a1 : Int) : Tr (za × (List Int) × Int) :=
  (.bind (zay a0) fun v1 =>
  (.ite (((!v1) || (decide (a1 < a0.Time))) || (decide (a1 > 1099511627776)))
    (.leaf (a0, [], 2))
    (.guard ((zmv a0.Set).isSome = true)
    (.guard ((zod a0.Meter ((zmv a0.Set).getD default) a1).isSome = true)
    (.bind (zgv a1 a0.Queue ((a0.Queue.length : Nat) : Int) 0 ({ (a0 : za) with Height := IntKind.i64.wrap (a0.Height + 1), Time := a1, Meter := ((zod a0.Meter ((zmv a0.Set).getD default) a1).getD default) }) (default : za) (⟨false, false⟩ : (A2 Bool)) []) fun v3 =>
    (.bind (zqo v3.2.1.Stake v3.1) fun v4 =>
    (.ite (v4.2.2 != 0)
      (.leaf ({ (v3.2.1 : za) with Queue := v3.2.2.2 }, [], v4.2.2))
      (.bind (zvc v4.1) fun v5 =>
      (.bind (zko v3.1 v4.2.1 0 ({ (v3.2.1 : za) with Stake := v4.1, Set := v5, Queue := v3.2.2.2 }) v3.2.2.1) fun v7 =>
      (.leaf (v7.2.1, v7.1, 0)))))))))))
def zcu (a0 : za) (a1 : Int) : Option (za × (List Int) × Int) := (zmc a0 a1).run
def zr89 : LQ (za × Int) := (LQ.seq (Par.q (Par.ofLP providerL)) (Par.q intP))
def zvo : LQ (za × (List Int) × Int) := (LQ.seq (Par.q (Par.ofLP providerL)) (LQ.seq (Par.q zgz) (Par.q intP)))
def zxz : SpecT := zt 0 zr89 2 [] (fun s => zmc s.1 s.2) default zvo 3 []
theorem z4r : zg Tryz.prog 81 (zxz).spec :=
  zd (A := za89) zh89 Facts.mix Tryz.func81 (c := zc89) (by kernel_rfl) (Lc := 0) ⟨za2h, za2k, trivial⟩ zr89 2 9 [] (fun s => zmc s.1 s.2) default zvo 3 [] [.pubB 4, .pub 5] (by decide) (by kernel_rfl) (by rfl) (by decide) (by decide) (by rfl)
    (by rintro ⟨a0, a1⟩; kernel_rfl)
end
end Go.Proofs.YtmakmlnfbdablaaGreat.Ab
