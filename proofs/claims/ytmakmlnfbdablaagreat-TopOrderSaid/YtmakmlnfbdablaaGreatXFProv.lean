/-
  The functions, each by its tree.
-/
import Derived.Test.YtmakmlnfbdablaaGreatXAbClear
import Derived.Test.YtmakmlnfbdablaaGreatXAbFun
import Derived.Test.YtmakmlnfbdablaaGreatXAbInsert
import Derived.Test.YtmakmlnfbdablaaGreatXAbStructs
import Derived.Test.YtmakmlnfbdablaaGreatXFBank
import Derived.Test.YtmakmlnfbdablaaGreatXFCodec
import Derived.Test.YtmakmlnfbdablaaGreatXFLine
import Derived.Test.YtmakmlnfbdablaaGreatXFStakeA
import Derived.Test.YtmakmlnfbdablaaGreatXFStakeB
import Derived.Test.YtmakmlnfbdablaaGreatXFacts
namespace Go.Proofs.YtmakmlnfbdablaaGreat.Ab
open Go Go.RowKit
set_option maxRecDepth 100000
set_option linter.unusedVariables false
set_option linter.unusedSimpArgs false
noncomputable section
noncomputable def zc68 : Code := Tryz.f31.body.getD .skip
def zv68 : List (List Nat) := [[0], [0]]
noncomputable def zy68 : EnvT := ⟨Tryz.prog, zw [(66, z66), (67, z09)]⟩
theorem zh68 : (zy68).Ok := ze ⟨zadv, z4q, trivial⟩
def za68 : Ann := ⟨[], [], [], zv68, []⟩
def zn1  : Tr (za) :=
  (.bind (zxt) fun v1 =>
  (.bind (zsp 0 0) fun v2 =>
  (.leaf (⟨0, 0, v1, [], (default : Links), v2, []⟩ : za))))
def zrf  : Option (za) := (zn1 ).run
def zr68 : LQ (Unit) := LQ.nil
def zx2 : LQ (za) := (Par.q (Par.ofLP providerL))
def z0h : SpecT := zx 0 zr68 0 [] (fun s => zn1 ) default zx2 1 []
theorem z7c : zj Tryz.prog 31 (z0h).spec :=
  zf (A := za68) zh68 Facts.mix Tryz.func31 (c := zc68) (by kernel_rfl) (Lc := 0) trivial zr68 0 3 [] (fun s => zn1 ) default zx2 1 [] [.pubB 0] (by decide) (by kernel_rfl) (by rfl) (by decide) (by decide) (by rfl)
    (by rintro _; kernel_rfl)
noncomputable def zc69 : Code := Tryz.f56.body.getD .skip
def zv69 : List (List Nat) := [[0], [0, 5, 6, 7], [0, 5, 6, 7, 8], [0, 3, 4, 5, 6, 7], [0, 5, 6, 7, 44], [2], [0, 5, 6, 7], [2]]
noncomputable def zy69 : EnvT := ⟨Tryz.prog, zw []⟩
theorem zh69 : (zy69).Ok := ze trivial
def zix (x0 : (List Power)) (x1 : (List Power)) (x2 : Int) (x3 : Int) : Tr (((List Power) × (List Power) × Int × Int) ⊕ ((Bool) ⊕ (Unit))) :=
  (.ite (decide (x3 < x2))
    (.guard ((0 : Int) ≤ x3 ∧ x3 < ((Sl.len (.powers x1) : Nat) : Int))
    (.guard (((decide (x3 > 0)) = true → (((decide (((x1.getD x3.toNat default).V) < 0)) || (decide (((x1.getD x3.toNat default).V) ≥ 6))) = false → ((0 : Int) ≤ (IntKind.i64.wrap (x3 - 1)) ∧ (IntKind.i64.wrap (x3 - 1)) < ((Sl.len (.powers x0) : Nat) : Int)) ∧ True)))
    (.ite (((((decide (((x1.getD x3.toNat default).V) < 0)) || (decide (((x1.getD x3.toNat default).V) ≥ 6))) || ((decide (x3 > 0)) && (decide (((x0.getD ((IntKind.i64.wrap (x3 - 1)).toNat) default).V) ≥ ((x1.getD x3.toNat default).V))))) || (decide (((x1.getD x3.toNat default).N) < 1))) || (decide (((x1.getD x3.toNat default).N) > 1125899906842624)))
      (.leaf (.inr (.inl false)))
      (.leaf (.inl (x0, x1, x2, IntKind.i64.wrap (x3 + 1)))))))
    (.leaf (.inr (.inr ()))))
def zs6 (x0 : (List Power)) (x1 : (List Power)) (x2 : Int) (x3 : Int) : Option ((Bool) ⊕ (Unit)) := zd5 (fun s : (List Power) × (List Power) × Int × Int => (zix s.1 s.2.1 s.2.2.1 s.2.2.2).run) (x0, x1, x2, x3)
def za8t : Ann := ⟨[], [], [], zv69, []⟩
def za8u : EndD ((List Power) × (List Power) × Int × Int) := ⟨(LQ.seq (Par.q zt) (LQ.seq (Par.q zt) (LQ.seq (Par.q intP) (Par.q intP)))), ⟨[0, 5, 6, 7], [.pub 0, .nilsl 0 (.powers []), .pub 5, .nilsl 5 (.powers [])]⟩, []⟩
def zauk : EndD (Bool) := ⟨(Par.q boolP), ⟨[2], []⟩, []⟩
def zaul : EndD (Unit) := ⟨LQ.nil, ⟨[], []⟩, []⟩
def zayg : St → Option LR := L2 46 3 0 za8u .ret zauk (.exit 0) zaul (fun s => zix s.1 s.2.1 s.2.2.1 s.2.2.2)
theorem za8v : zv (zy69).env 0 (sub zc69 [0, 1, 0, 1]) zayg :=
  zlc (A := za8t) zh69 Facts.mix trivial (k := zb1 (sub zc69 [0, 1, 0, 1])) (by kernel_rfl) rfl rfl (by rintro ⟨x0, x1, x2, x3⟩; kernel_rfl)
def za69 : Ann := ⟨[([0, 1, 0, 1], zayg)], [], [], zv69, []⟩
def zn2 (a0 : (List Power)) : Tr (Bool) :=
  (.two (zs6 a0 a0 ((a0.length : Nat) : Int) 0) (fun v1 =>
    (.leaf v1)) (fun v2 =>
    (.leaf true)))
def zed (a0 : (List Power)) : Option (Bool) := (zn2 a0).run
def zr69 : LQ ((List Power)) := (Par.q zt)
def zx3 : LQ (Bool) := (Par.q boolP)
def z0i : SpecT := zx 0 zr69 1 [] (fun s => zn2 s) default zx3 1 []
theorem z7d : zj Tryz.prog 56 (z0i).spec :=
  zf (A := za69) zh69 Facts.mix Tryz.func56 (c := zc69) (by kernel_rfl) (Lc := 0) ⟨za8v, trivial⟩ zr69 1 3 [] (fun s => zn2 s) default zx3 1 [] [] (by decide) (by kernel_rfl) (by rfl) (by decide) (by decide) (by rfl)
    (by rintro a0; kernel_rfl)
noncomputable def zc70 : Code := Tryz.f58.body.getD .skip
def zv70 : List (List Nat) := [[1, 2], [3]]
noncomputable def zy70 : EnvT := ⟨Tryz.prog, zw [(55, zoo)]⟩
theorem zh70 : (zy70).Ok := ze ⟨zqe, trivial⟩
def za70 : Ann := ⟨[], [], [], zv70, []⟩
def ziy (a0 : Asked) (a1 : za) : Tr (Bool × za) :=
  (.guard ((((decide (a0.C < 0)) || (decide (a0.C ≥ 2))) = false → ((0 : Int) ≤ a0.C ∧ (a0.C : Int) < 2) ∧ True))
  (.guard (((((decide (a0.C < 0)) || (decide (a0.C ≥ 2))) || (!(a1.Links.On.get a0.C))) = false → ((zgn a0.P).isSome = true) ∧ True))
  (.leaf (((((decide (a0.C < 0)) || (decide (a0.C ≥ 2))) || (!(a1.Links.On.get a0.C))) || (((zgn a0.P).getD default) != 0)) || (a0.P.Kind == 1), a1))))
def zl2 (a0 : Asked) (a1 : za) : Option (Bool × za) := (ziy a0 a1).run
def zr70 : LQ (Asked × za) := (LQ.seq (Par.q (Par.ofLP zalc)) (LQ.skip (LQ.const (.ptr 0 0)) (LP.q providerL)))
def zs7 : LQ (Bool × za) := (LQ.seq (Par.q boolP) (LP.q providerL))
def zui : SpecT := zx 1 zr70 2 [.cells 61 97] (fun s => ziy s.1 s.2) default zs7 1 [.cells 61 97]
theorem z22 : zj Tryz.prog 58 (zui).spec :=
  zf (A := za70) zh70 Facts.mix Tryz.func58 (c := zc70) (by kernel_rfl) (Lc := 1) trivial zr70 2 4 [.cells 61 97] (fun s => ziy s.1 s.2) default zs7 1 [.cells 61 97] [.pubN 0] (by decide) (by kernel_rfl) (by rfl) (by decide) (by decide) (by rfl)
    (by rintro ⟨a0, a1⟩; kernel_rfl)
noncomputable def zc71 : Code := Tryz.f75.body.getD .skip
def zv71 : List (List Nat) := [[0, 1], [0, 1, 7, 8], [0, 1, 7, 8, 9], [0, 1, 5, 7, 8], [0, 1, 5, 7, 8, 16], [4], [0, 1, 7, 8], [4]]
noncomputable def zy71 : EnvT := ⟨Tryz.prog, zw [(58, zui)]⟩
theorem zh71 : (zy71).Ok := ze ⟨z22, trivial⟩
def zai (x0 : (List Asked)) (x1 : Int) (x2 : Int) (x3 : za) : Tr (((List Asked) × Int × Int × za) ⊕ ((Int × za) ⊕ (za))) :=
  (.ite (decide (x2 < x1))
    (.guard ((0 : Int) ≤ x2 ∧ x2 < ((Sl.len (.asked x0) : Nat) : Int))
    (.bind (zl2 (x0.getD x2.toNat default) x3) fun v1 =>
    (.ite (v1.1)
      (.leaf (.inr (.inl (x2, v1.2))))
      (.leaf (.inl (x0, x1, IntKind.i64.wrap (x2 + 1), v1.2))))))
    (.leaf (.inr (.inr x3))))
def zeo (x0 : (List Asked)) (x1 : Int) (x2 : Int) (x3 : za) : Option ((Int × za) ⊕ (za)) := zd5 (fun s : (List Asked) × Int × Int × za => (zai s.1 s.2.1 s.2.2.1 s.2.2.2).run) (x0, x1, x2, x3)
def za8x : Ann := ⟨[], [], [], zv71, []⟩
def za8y : EndD ((List Asked) × Int × Int × za) := ⟨(LQ.seq (Par.q zfn) (LQ.skip (LQ.const (.fn 58 [.ptr 0 0])) (LQ.seq (Par.q intP) (LQ.seq (Par.q intP) (LP.q providerL))))), ⟨[0, 1, 7, 8], [.pub 0, .nilsl 0 (.asked [])]⟩, [.cells 61 97]⟩
def zaum : EndD (Int × za) := ⟨(LQ.seq (Par.q intP) (LP.q providerL)), ⟨[4], []⟩, [.cells 61 97]⟩
def zaun : EndD (za) := ⟨(LP.q providerL), ⟨[], []⟩, [.cells 61 97]⟩
def zayh : St → Option LR := L2 19 3 1 za8y .ret zaum (.exit 0) zaun (fun s => zai s.1 s.2.1 s.2.2.1 s.2.2.2)
theorem za8z : zv (zy71).env 1 (sub zc71 [0, 1, 0, 1]) zayh :=
  zlc (A := za8x) zh71 Facts.mix trivial (k := zb1 (sub zc71 [0, 1, 0, 1])) (by kernel_rfl) rfl rfl (by rintro ⟨x0, x1, x2, x3⟩; kernel_rfl)
def za71 : Ann := ⟨[([0, 1, 0, 1], zayh)], [], [], zv71, []⟩
def zat (a0 : (List Asked)) (a1 : za) : Tr (Int × za) :=
  (.two (zeo a0 ((a0.length : Nat) : Int) 0 a1) (fun v2 =>
    (.leaf (v2.1, v2.2))) (fun v3 =>
    (.leaf (-1, v3))))
def zcx (a0 : (List Asked)) (a1 : za) : Option (Int × za) := (zat a0 a1).run
def zr71 : LQ ((List Asked) × za) := (LQ.seq (Par.q zfn) (LQ.skip (LQ.const (.fn 58 [.ptr 0 0])) (LP.q providerL)))
def zfz : LQ (Int × za) := (LQ.seq (Par.q intP) (LP.q providerL))
def zgd : SpecT := zx 1 zr71 2 [.cells 61 97] (fun s => zat s.1 s.2) default zfz 1 [.cells 61 97]
theorem zm8 : zj Tryz.prog 75 (zgd).spec :=
  zf (A := za71) zh71 Facts.mix Tryz.func75 (c := zc71) (by kernel_rfl) (Lc := 1) ⟨za8z, trivial⟩ zr71 2 3 [.cells 61 97] (fun s => zat s.1 s.2) default zfz 1 [.cells 61 97] [.pubN 0] (by decide) (by kernel_rfl) (by rfl) (by decide) (by decide) (by rfl)
    (by rintro ⟨a0, a1⟩; kernel_rfl)
noncomputable def zc72 : Code := Tryz.f57.body.getD .skip
def zv72 : List (List Nat) := [[0, 1], [4]]
noncomputable def zy72 : EnvT := ⟨Tryz.prog, zw [(75, zgd)]⟩
theorem zh72 : (zy72).Ok := ze ⟨zm8, trivial⟩
def za72 : Ann := ⟨[], [], [], zv72, []⟩
def zbm (a0 : (List Asked)) (a1 : za) : Tr (Bool × za) :=
  (.bind (zcx a0 a1) fun v1 =>
  (.leaf (decide (v1.1 ≥ 0), v1.2)))
def zcp (a0 : (List Asked)) (a1 : za) : Option (Bool × za) := (zbm a0 a1).run
def zr72 : LQ ((List Asked) × za) := (LQ.seq (Par.q zfn) (LQ.skip (LQ.const (.fn 58 [.ptr 0 0])) (LP.q providerL)))
def zfi : LQ (Bool × za) := (LQ.seq (Par.q boolP) (LP.q providerL))
def zf0 : SpecT := zx 1 zr72 2 [.cells 61 97] (fun s => zbm s.1 s.2) default zfi 1 [.cells 61 97]
theorem zmr : zj Tryz.prog 57 (zf0).spec :=
  zf (A := za72) zh72 Facts.mix Tryz.func57 (c := zc72) (by kernel_rfl) (Lc := 1) trivial zr72 2 3 [.cells 61 97] (fun s => zbm s.1 s.2) default zfi 1 [.cells 61 97] [.pubN 0] (by decide) (by kernel_rfl) (by rfl) (by decide) (by decide) (by rfl)
    (by rintro ⟨a0, a1⟩; kernel_rfl)
noncomputable def zc73 : Code := Tryz.f25.body.getD .skip
def zv73 : List (List Nat) := [[1], [1, 36], [2], [1, 38, 39], [1, 38, 39, 40], [1, 4, 38, 39], [1, 4, 38, 39, 71], [2], [1, 4, 38, 39, 73, 74, 75], [1, 4, 38, 39, 73, 74, 75, 76], [1, 4, 5, 6, 38, 39, 73, 74, 75], [1, 4, 38, 39, 73, 74, 75, 99], [2], [1, 4, 38, 39, 73, 74, 75], [1, 38, 39], [2]]
noncomputable def zy73 : EnvT := ⟨Tryz.prog, zw [(21, zsv), (56, z0i), (52, zm3), (57, zf0)]⟩
theorem zh73 : (zy73).Ok := ze ⟨zvk, z7d, zon, zmr, trivial⟩
def zhl (x0 : Links) (x1 : Int) (x2 : (List Int)) (x3 : Int) (x4 : Int) (x5 : za) (x6 : Link) : Tr ((Links × Int × (List Int) × Int × Int × za × Link) ⊕ ((Bool) ⊕ (Links × Int × za))) :=
  (.ite (decide (x4 < x3))
    (.guard ((0 : Int) ≤ x4 ∧ x4 < ((Sl.len (.ints x2) : Nat) : Int))
    (.guard (((decide (x4 > 0)) = true → (((decide ((x2.getD x4.toNat 0) < 0)) || (decide ((x2.getD x4.toNat 0) ≥ 6))) = false → ((0 : Int) ≤ (IntKind.i64.wrap (x4 - 1)) ∧ (IntKind.i64.wrap (x4 - 1)) < ((Sl.len (.ints x6.Done) : Nat) : Int)) ∧ True)))
    (.ite (((decide ((x2.getD x4.toNat 0) < 0)) || (decide ((x2.getD x4.toNat 0) ≥ 6))) || ((decide (x4 > 0)) && (decide ((x6.Done.getD ((IntKind.i64.wrap (x4 - 1)).toNat) 0) ≥ (x2.getD x4.toNat 0)))))
      (.leaf (.inr (.inl false)))
      (.leaf (.inl (x0, x1, x2, x3, IntKind.i64.wrap (x4 + 1), x5, x6))))))
    (.leaf (.inr (.inr (x0, x1, x5)))))
def zrg (x0 : Links) (x1 : Int) (x2 : (List Int)) (x3 : Int) (x4 : Int) (x5 : za) (x6 : Link) : Option ((Bool) ⊕ (Links × Int × za)) := zd5 (fun s : Links × Int × (List Int) × Int × Int × za × Link => (zhl s.1 s.2.1 s.2.2.1 s.2.2.2.1 s.2.2.2.2.1 s.2.2.2.2.2.1 s.2.2.2.2.2.2).run) (x0, x1, x2, x3, x4, x5, x6)
def za9e : Ann := ⟨[], [], [], zv73, []⟩
def za9f : EndD (Links × Int × (List Int) × Int × Int × za × Link) := ⟨(LQ.skip (LQ.const (.ptr 0 0)) (LQ.skip (LQ.const (.ptr 1 0)) (LQ.seq (Par.q (Par.ofLP linksL)) (LQ.seq (Par.q intP) (LQ.seq (Par.q zhs) (LQ.seq (Par.q intP) (LQ.seq (Par.q intP) (LQ.seq (LP.q providerL) (LP.q zawq))))))))), ⟨[1, 4, 38, 39, 73, 74, 75], [.pub 73, .nilsl 73 (.ints [])]⟩, [.cells 61 97, .cells 55 14]⟩
def zauo : EndD (Bool) := ⟨(Par.q boolP), ⟨[2], []⟩, []⟩
def zaup : EndD (Links × Int × za) := ⟨(LQ.skip (LQ.const (.ptr 0 0)) (LQ.seq (Par.q (Par.ofLP linksL)) (LQ.seq (Par.q intP) (LP.q providerL)))), ⟨[1, 38, 39], []⟩, [.cells 61 97]⟩
def zayj : St → Option LR := L2 107 4 0 za9f .ret zauo (.exit 2) zaup (fun s => zhl s.1 s.2.1 s.2.2.1 s.2.2.2.1 s.2.2.2.2.1 s.2.2.2.2.2.1 s.2.2.2.2.2.2)
theorem za9g : zv (zy73).env 0 (sub zc73 [0, 1, 1, 1, 0, 0, 1, 1, 0, 0, 1, 0, 1, 1]) zayj :=
  zlc (A := za9e) zh73 Facts.mix trivial (k := zb1 (sub zc73 [0, 1, 1, 1, 0, 0, 1, 1, 0, 0, 1, 0, 1, 1])) (by kernel_rfl) rfl rfl (by rintro ⟨x0, x1, x2, x3, x4, x5, x6⟩; kernel_rfl)
def zdu (x0 : Links) (x1 : Int) (x2 : za) : Tr ((Links × Int × za) ⊕ ((Bool) ⊕ (za))) :=
  (.ite (decide (x1 < 2))
    (.guard ((0 : Int) ≤ x1 ∧ (x1 : Int) < 2)
    (.guard ((((((x0.On.get x1) && (x0.Gone.get x1)) || (decide ((x0.Base.get x1) < 0))) || (decide ((x0.Base.get x1) > x2.Height))) = false → ((zed (x0.Told.get x1)).isSome = true) ∧ True))
    (.guard (((((((x0.On.get x1) && (x0.Gone.get x1)) || (decide ((x0.Base.get x1) < 0))) || (decide ((x0.Base.get x1) > x2.Height))) || (!((zed (x0.Told.get x1)).getD default))) = false → ((zez (⟨x0.Said.get x1, x0.Due.get x1, x0.Got.get x1, x0.Closed.get x1⟩ : zbk)).isSome = true) ∧ True))
    (.ite ((((((x0.On.get x1) && (x0.Gone.get x1)) || (decide ((x0.Base.get x1) < 0))) || (decide ((x0.Base.get x1) > x2.Height))) || (!((zed (x0.Told.get x1)).getD default))) || (!((zez (⟨x0.Said.get x1, x0.Due.get x1, x0.Got.get x1, x0.Closed.get x1⟩ : zbk)).getD default)))
      (.leaf (.inr (.inl false)))
      (.two (zrg x0 x1 (x0.Done.get x1) (((x0.Done.get x1).length : Nat) : Int) 0 x2 (⟨x0.On.get x1, x0.Gone.get x1, x0.Base.get x1, x0.Told.get x1, x0.Fresh.get x1, x0.Done.get x1, (⟨x0.Said.get x1, x0.Due.get x1, x0.Got.get x1, x0.Closed.get x1⟩ : zbk), (⟨x0.SHeight.get x1, x0.STime.get x1, x0.SSaid.get x1, x0.SGot.get x1⟩ : z9i)⟩ : Link)) (fun v2 =>
        (.leaf (.inr (.inl v2)))) (fun v3 =>
        (.leaf (.inl (v3.1, IntKind.i64.wrap (v3.2.1 + 1), v3.2.2)))))))))
    (.leaf (.inr (.inr x2))))
def zks (x0 : Links) (x1 : Int) (x2 : za) : Option ((Bool) ⊕ (za)) := zd5 (fun s : Links × Int × za => (zdu s.1 s.2.1 s.2.2).run) (x0, x1, x2)
def za9h : Ann := ⟨[([0, 1, 1, 1, 0, 0, 1, 1, 0, 0, 1, 0, 1, 1], zayj)], [], [], zv73, []⟩
def za9i : EndD (Links × Int × za) := ⟨(LQ.skip (LQ.const (.ptr 0 0)) (LQ.seq (Par.q (Par.ofLP linksL)) (LQ.seq (Par.q intP) (LP.q providerL)))), ⟨[1, 38, 39], []⟩, [.cells 61 97]⟩
def zauq : EndD (Bool) := ⟨(Par.q boolP), ⟨[2], []⟩, []⟩
def zaur : EndD (za) := ⟨(LQ.skip (LQ.const (.ptr 0 0)) (LP.q providerL)), ⟨[1], []⟩, [.cells 61 97]⟩
def zayk : St → Option LR := L2 107 4 0 za9i .ret zauq (.exit 0) zaur (fun s => zdu s.1 s.2.1 s.2.2)
theorem za9j : zv (zy73).env 0 (sub zc73 [0, 1, 0, 1, 1]) zayk :=
  zlc (A := za9h) zh73 Facts.mix ⟨za9g, trivial⟩ (k := zb1 (sub zc73 [0, 1, 0, 1, 1])) (by kernel_rfl) rfl rfl (by rintro ⟨x0, x1, x2⟩; kernel_rfl)
def za73 : Ann := ⟨[([0, 1, 0, 1, 1], zayk)], [], [], zv73, []⟩
def zl3 (a0 : za) : Tr (Bool) :=
  (.bind (zlr a0.Stake) fun v1 =>
  (.guard (((((((!v1) || (decide (a0.Height < 0))) || (decide (a0.Height ≥ 1099511627776))) || (decide (a0.Time < 0))) || (decide (a0.Time > 1099511627776))) = false → ((zed a0.Set).isSome = true) ∧ True))
  (.ite ((((((!v1) || (decide (a0.Height < 0))) || (decide (a0.Height ≥ 1099511627776))) || (decide (a0.Time < 0))) || (decide (a0.Time > 1099511627776))) || (!((zed a0.Set).getD default)))
    (.leaf false)
    (.two (zks a0.Links 0 a0) (fun v4 =>
      (.leaf v4)) (fun v5 =>
      (.bind (zcp v5.Queue v5) fun v6 =>
      (.leaf (!v6.1))))))))
def zbx (a0 : za) : Option (Bool) := (zl3 a0).run
def zr73 : LQ (za) := (Par.q (Par.ofLP providerL))
def zwr : LQ (Bool) := (Par.q boolP)
def zdj : SpecT := zx 0 zr73 1 [] (fun s => zl3 s) default zwr 1 []
theorem zdx : zj Tryz.prog 25 (zdj).spec :=
  zf (A := za73) zh73 Facts.mix Tryz.func25 (c := zc73) (by kernel_rfl) (Lc := 0) ⟨za9j, trivial⟩ zr73 1 4 [] (fun s => zl3 s) default zwr 1 [] [] (by decide) (by kernel_rfl) (by rfl) (by decide) (by decide) (by rfl)
    (by rintro a0; kernel_rfl)
noncomputable def zc74 : Code := Tryz.f60.body.getD .skip
def zv74 : List (List Nat) := [[1, 2, 3, 4, 8], [1, 2, 3, 4, 8, 14], [8, 9], [4, 8, 10, 11], [4, 8, 10, 11, 26], [8, 9], [4, 8], [8, 9]]
noncomputable def zy74 : EnvT := ⟨Tryz.prog, zw [(25, zdj), (76, zwj)]⟩
theorem zh74 : (zy74).Ok := ze ⟨zdx, z3t, trivial⟩
def za74 : Ann := ⟨[], [], [], zv74, []⟩
def zgp (a0 : za) (a1 : Int) (a2 : Int) (a3 : Int) : Tr (za × Int) :=
  (.bind (zbx a0) fun v1 =>
  (.ite (!v1)
    (.leaf (a0, 2))
    (.bind (zm4 a0.Stake a1 a2 a3) fun v2 =>
    (.ite (v2.2 != 0)
      (.leaf (a0, v2.2))
      (.leaf ({ (a0 : za) with Stake := v2.1 }, 0))))))
def zja (a0 : za) (a1 : Int) (a2 : Int) (a3 : Int) : Option (za × Int) := (zgp a0 a1 a2 a3).run
def zr74 : LQ (za × Int × Int × Int) := (LQ.seq (Par.q (Par.ofLP providerL)) (LQ.seq (Par.q intP) (LQ.seq (Par.q intP) (Par.q intP))))
def zph : LQ (za × Int) := (LQ.seq (Par.q (Par.ofLP providerL)) (Par.q intP))
def zrh : SpecT := zx 0 zr74 4 [] (fun s => zgp s.1 s.2.1 s.2.2.1 s.2.2.2) default zph 2 []
theorem zzq : zj Tryz.prog 60 (zrh).spec :=
  zf (A := za74) zh74 Facts.mix Tryz.func60 (c := zc74) (by kernel_rfl) (Lc := 0) trivial zr74 4 5 [] (fun s => zgp s.1 s.2.1 s.2.2.1 s.2.2.2) default zph 2 [] [.pubB 8] (by decide) (by kernel_rfl) (by rfl) (by decide) (by decide) (by rfl)
    (by rintro ⟨a0, a1, a2, a3⟩; kernel_rfl)
noncomputable def zc75 : Code := Tryz.f61.body.getD .skip
def zv75 : List (List Nat) := [[1, 2, 3, 4, 5, 10], [1, 2, 3, 4, 5, 10, 27], [10, 11], [1, 2, 3, 5, 10, 12], [1, 2, 3, 5, 10, 12, 35], [1, 2, 3, 5, 10, 12, 35, 36], [1, 2, 3, 5, 10, 12, 13, 35], [1, 2, 3, 5, 10, 12, 13, 35, 42], [1, 2, 3, 5, 10, 12, 35], [1, 2, 3, 5, 10, 12, 35], [5, 10, 14, 15], [5, 10, 14, 15, 61], [10, 11], [5, 10], [5, 10, 66], [5, 10, 66, 67], [5, 10, 16, 66], [5, 10, 66], [5, 10, 66], [10, 11]]
noncomputable def zy75 : EnvT := ⟨Tryz.prog, zw [(25, zdj), (77, zsw)]⟩
theorem zh75 : (zy75).Ok := ze ⟨zdx, z1a, trivial⟩
def zbg (x0 : Int) (x1 : Int) (x2 : Int) (x3 : Int) (x4 : za) (x5 : za) (x6 : Wait) : Tr ((Int × Int × Int × Int × za × za × Wait) ⊕ (Int × Int × Int × za × za × Wait)) :=
  (.ite (decide (x3 < 2))
    (.guard ((0 : Int) ≤ x3 ∧ (x3 : Int) < 2)
    (.ite (x4.Links.On.get x3)
      (.guard ((0 : Int) ≤ x3 ∧ (x3 : Int) < 2)
      (.leaf (.inl (x0, x1, x2, IntKind.i64.wrap (x3 + 1), x4, x5, { (x6 : Wait) with h0 := if x3 = 0 then IntKind.i64.wrap (x4.Height + 1) else x6.h0, h1 := if x3 = 1 then IntKind.i64.wrap (x4.Height + 1) else x6.h1 }))))
      (.leaf (.inl (x0, x1, x2, IntKind.i64.wrap (x3 + 1), x4, x5, x6)))))
    (.leaf (.inr (x0, x1, x2, x4, x5, x6))))
def zfd (x0 : Int) (x1 : Int) (x2 : Int) (x3 : Int) (x4 : za) (x5 : za) (x6 : Wait) : Option (Int × Int × Int × za × za × Wait) := zd5 (fun s : Int × Int × Int × Int × za × za × Wait => (zbg s.1 s.2.1 s.2.2.1 s.2.2.2.1 s.2.2.2.2.1 s.2.2.2.2.2.1 s.2.2.2.2.2.2).run) (x0, x1, x2, x3, x4, x5, x6)
def za9n : Ann := ⟨[], [], [], zv75, []⟩
def za9o : EndD (Int × Int × Int × Int × za × za × Wait) := ⟨(LQ.seq (Par.q intP) (LQ.seq (Par.q intP) (LQ.seq (Par.q intP) (LQ.skip (LQ.const (.ptr 0 0)) (LQ.skip (LQ.const (.ptr 1 0)) (LQ.skip (LQ.const (.ptr 2 0)) (LQ.seq (Par.q intP) (LQ.seq (LP.q providerL) (LQ.seq (LP.q providerL) (LP.q zas1)))))))))), ⟨[1, 2, 3, 5, 10, 12, 35], []⟩, [.cells 61 97, .cells 61 97, .cells 98 8]⟩
def zaus : EndD (Int × Int × Int × za × za × Wait) := ⟨(LQ.seq (Par.q intP) (LQ.seq (Par.q intP) (LQ.seq (Par.q intP) (LQ.skip (LQ.const (.ptr 0 0)) (LQ.skip (LQ.const (.ptr 1 0)) (LQ.skip (LQ.const (.ptr 2 0)) (LQ.seq (LP.q providerL) (LQ.seq (LP.q providerL) (LP.q zas1))))))))), ⟨[1, 2, 3, 5, 10, 12], []⟩, [.cells 61 97, .cells 61 97, .cells 98 8]⟩
def zaym : St → Option LR := L1 87 6 0 za9o (.exit 0) zaus (fun s => zbg s.1 s.2.1 s.2.2.1 s.2.2.2.1 s.2.2.2.2.1 s.2.2.2.2.2.1 s.2.2.2.2.2.2)
theorem za9p : zv (zy75).env 0 (sub zc75 [0, 1, 0, 1, 1, 1]) zaym :=
  zji (A := za9n) zh75 Facts.mix trivial (k := zb1 (sub zc75 [0, 1, 0, 1, 1, 1])) (by kernel_rfl) rfl (by rintro ⟨x0, x1, x2, x3, x4, x5, x6⟩; kernel_rfl)
def zbh (x0 : Int) (x1 : za) (x2 : za) : Tr ((Int × za × za) ⊕ (za × za)) :=
  (.ite (decide (x0 < 2))
    (.guard ((0 : Int) ≤ x0 ∧ (x0 : Int) < 2)
    (.guard (((x1.Links.Fresh.get x0) = false → ((0 : Int) ≤ x0 ∧ (x0 : Int) < 2) ∧ True))
    (.guard ((0 : Int) ≤ x0 ∧ (x0 : Int) < 2)
    (.leaf (.inl (IntKind.i64.wrap (x0 + 1), { (x1 : za) with Links := { (x1.Links : Links) with Fresh := (x1.Links.Fresh.set x0 ((x1.Links.Fresh.get x0) || (x1.Links.On.get x0))) } }, x2))))))
    (.leaf (.inr (x1, x2))))
def zjx (x0 : Int) (x1 : za) (x2 : za) : Option (za × za) := zd5 (fun s : Int × za × za => (zbh s.1 s.2.1 s.2.2).run) (x0, x1, x2)
def za9q : Ann := ⟨[], [], [], zv75, []⟩
def za9r : EndD (Int × za × za) := ⟨(LQ.skip (LQ.const (.ptr 0 0)) (LQ.skip (LQ.const (.ptr 1 0)) (LQ.seq (Par.q intP) (LQ.seq (LP.q providerL) (LP.q providerL))))), ⟨[5, 10, 66], []⟩, [.cells 61 97, .cells 61 97]⟩
def zaut : EndD (za × za) := ⟨(LQ.skip (LQ.const (.ptr 0 0)) (LQ.skip (LQ.const (.ptr 1 0)) (LQ.seq (LP.q providerL) (LP.q providerL)))), ⟨[5, 10], []⟩, [.cells 61 97, .cells 61 97]⟩
def zayn : St → Option LR := L1 87 6 0 za9r (.exit 2) zaut (fun s => zbh s.1 s.2.1 s.2.2)
theorem za9s : zv (zy75).env 0 (sub zc75 [0, 1, 0, 1, 1, 1, 1, 1, 1, 1]) zayn :=
  zji (A := za9q) zh75 Facts.mix trivial (k := zb1 (sub zc75 [0, 1, 0, 1, 1, 1, 1, 1, 1, 1])) (by kernel_rfl) rfl (by rintro ⟨x0, x1, x2⟩; kernel_rfl)
def za75 : Ann := ⟨[([0, 1, 0, 1, 1, 1], zaym), ([0, 1, 0, 1, 1, 1, 1, 1, 1, 1], zayn)], [], [], zv75, []⟩
def ze4 (a0 : za) (a1 : Int) (a2 : Int) (a3 : Int) (a4 : Int) : Tr (za × Int) :=
  (.bind (zbx a0) fun v1 =>
  (.ite (((!v1) || (decide (a4 < 0))) || (decide (a4 > 1099511627776)))
    (.leaf (a0, 2))
    (.bind (zfd a1 a2 a3 0 a0 (default : za) (⟨0, 0, 0, 0, IntKind.i64.wrap (a0.Height + 1), IntKind.i64.wrap (a4 + 20), 0, 0⟩ : Wait)) fun v2 =>
    (.bind (zkp v2.2.2.2.1.Stake v2.1 v2.2.1 v2.2.2.1 v2.2.2.2.2.2) fun v3 =>
    (.ite (v3.2 != 0)
      (.leaf (v2.2.2.2.1, v3.2))
      (.bind (zjx 0 ({ (v2.2.2.2.1 : za) with Stake := v3.1 }) v2.2.2.2.2.1) fun v4 =>
      (.leaf (v4.1, 0))))))))
def zbt (a0 : za) (a1 : Int) (a2 : Int) (a3 : Int) (a4 : Int) : Option (za × Int) := (ze4 a0 a1 a2 a3 a4).run
def zr75 : LQ (za × Int × Int × Int × Int) := (LQ.seq (Par.q (Par.ofLP providerL)) (LQ.seq (Par.q intP) (LQ.seq (Par.q intP) (LQ.seq (Par.q intP) (Par.q intP)))))
def zmv : LQ (za × Int) := (LQ.seq (Par.q (Par.ofLP providerL)) (Par.q intP))
def zos : SpecT := zx 0 zr75 5 [] (fun s => ze4 s.1 s.2.1 s.2.2.1 s.2.2.2.1 s.2.2.2.2) default zmv 2 []
theorem zw3 : zj Tryz.prog 61 (zos).spec :=
  zf (A := za75) zh75 Facts.mix Tryz.func61 (c := zc75) (by kernel_rfl) (Lc := 0) ⟨za9p, za9s, trivial⟩ zr75 5 6 [] (fun s => ze4 s.1 s.2.1 s.2.2.1 s.2.2.2.1 s.2.2.2.2) default zmv 2 [] [.pubB 10] (by decide) (by kernel_rfl) (by rfl) (by decide) (by decide) (by rfl)
    (by rintro ⟨a0, a1, a2, a3, a4⟩; kernel_rfl)
noncomputable def zc76 : Code := Tryz.f82.body.getD .skip
def zv76 : List (List Nat) := [[1, 2, 4], [1, 2, 4, 8], [4, 5], [1, 2, 4, 13], [4, 5], [1, 2, 4, 21], [4, 5], [1, 2, 4, 28], [4, 5], [1, 2, 4, 35], [4, 5], [1, 2, 4], [1, 2, 4], [1, 2, 4, 64, 65], [1, 2, 4, 64, 65, 66], [1, 2, 4, 6, 64, 65], [1, 2, 4, 7, 64, 65], [1, 2, 4, 7, 64, 65, 79], [1, 2, 4, 64, 65], [1, 2, 4, 64, 65], [1, 2, 4, 64, 65], [4, 5]]
noncomputable def zy76 : EnvT := ⟨Tryz.prog, zw [(25, zdj), (102, zep), (94, zb7)]⟩
theorem zh76 : (zy76).Ok := ze ⟨zdx, zhw, zdq, trivial⟩
def zee (x0 : Int) (x1 : Int) (x2 : Int) (x3 : za) (x4 : za) : Tr ((Int × Int × Int × za × za) ⊕ (za × za)) :=
  (.ite (decide (x2 < x1))
    (.guard ((0 : Int) ≤ x2 ∧ x2 < ((Sl.len (.waits x3.Stake.Waits) : Nat) : Int))
    (.ite (decide (((x3.Stake.Waits.getD x2.toNat default).Height) > x3.Height))
      (.guard ((0 : Int) ≤ x0 ∧ (x0 : Int) < 2)
      (.guard ((0 : Int) ≤ x0 ∧ (x0 : Int) < 2)
      (.leaf (.inl (x0, x1, IntKind.i64.wrap (x2 + 1), { (x3 : za) with Stake := { (x3.Stake : Stake) with Waits := x3.Stake.Waits.set x2.toNat ({ ((x3.Stake.Waits.getD x2.toNat default) : Wait) with h0 := if x0 = 0 then (x3.Stake.Waits.getD x2.toNat default).Height else (x3.Stake.Waits.getD x2.toNat default).h0, h1 := if x0 = 1 then (x3.Stake.Waits.getD x2.toNat default).Height else (x3.Stake.Waits.getD x2.toNat default).h1 }) }, Links := { (x3.Links : Links) with Fresh := (x3.Links.Fresh.set x0 true) } }, x4)))))
      (.leaf (.inl (x0, x1, IntKind.i64.wrap (x2 + 1), x3, x4)))))
    (.leaf (.inr (x3, x4))))
def zjb (x0 : Int) (x1 : Int) (x2 : Int) (x3 : za) (x4 : za) : Option (za × za) := zd5 (fun s : Int × Int × Int × za × za => (zee s.1 s.2.1 s.2.2.1 s.2.2.2.1 s.2.2.2.2).run) (x0, x1, x2, x3, x4)
def za9u : Ann := ⟨[], [], [], zv76, []⟩
def za9v : EndD (Int × Int × Int × za × za) := ⟨(LQ.map (LQ.seq (Par.q intP) (LQ.skip (LQ.const (.ptr 0 0)) (LQ.skip (LQ.const (.ptr 1 0)) (LQ.seq (Par.q intP) (LQ.seq (Par.q intP) (LQ.seq (Par.q intP) (LQ.seq (Par.q intP) (LQ.seq (LP.q bankL) (LQ.seq (LP.q validatorsL) (LQ.seq (LP.q (a4L (a6L (LP.one intP)))) (LQ.skip (LQ.const (.own 2)) (LQ.seq (Par.q intP) (LQ.seq (Par.q zt) (LQ.seq (LP.q linksL) (LQ.seq (LP.q meterL) (LQ.seq (Par.q zfn) (LQ.seq (LP.q providerL) (Par.q zol)))))))))))))))))) (fun x : Int × Int × Int × Int × Int × Bank × Validators × (A4 (A6 Int)) × Int × (List Power) × Links × Meter × (List Asked) × za × (List Wait) => ((x.1, x.2.1, x.2.2.1, (⟨x.2.2.2.1, x.2.2.2.2.1, (⟨x.2.2.2.2.2.1, x.2.2.2.2.2.2.1, x.2.2.2.2.2.2.2.1, x.2.2.2.2.2.2.2.2.2.2.2.2.2.2, x.2.2.2.2.2.2.2.2.1⟩ : Stake), x.2.2.2.2.2.2.2.2.2.1, x.2.2.2.2.2.2.2.2.2.2.1, x.2.2.2.2.2.2.2.2.2.2.2.1, x.2.2.2.2.2.2.2.2.2.2.2.2.1⟩ : za), x.2.2.2.2.2.2.2.2.2.2.2.2.2.1) : Int × Int × Int × za × za)) (fun y => (y.1, y.2.1, y.2.2.1, y.2.2.2.1.Height, y.2.2.2.1.Time, y.2.2.2.1.Stake.Bank, y.2.2.2.1.Stake.Validators, y.2.2.2.1.Stake.Shares, y.2.2.2.1.Stake.Next, y.2.2.2.1.Set, y.2.2.2.1.Links, y.2.2.2.1.Meter, y.2.2.2.1.Queue, y.2.2.2.2, y.2.2.2.1.Stake.Waits)) (fun _ => rfl)), ⟨[1, 2, 4, 64, 65], [.nilcell 2 63 98 (.waits [])]⟩, [.cells 61 97, .cells 61 97, .rows 98]⟩
def zauu : EndD (za × za) := ⟨(LQ.map (LQ.skip (LQ.const (.ptr 0 0)) (LQ.skip (LQ.const (.ptr 1 0)) (LQ.seq (Par.q intP) (LQ.seq (Par.q intP) (LQ.seq (LP.q bankL) (LQ.seq (LP.q validatorsL) (LQ.seq (LP.q (a4L (a6L (LP.one intP)))) (LQ.skip (LQ.const (.own 2)) (LQ.seq (Par.q intP) (LQ.seq (Par.q zt) (LQ.seq (LP.q linksL) (LQ.seq (LP.q meterL) (LQ.seq (Par.q zfn) (LQ.seq (LP.q providerL) (Par.q zol))))))))))))))) (fun x : Int × Int × Bank × Validators × (A4 (A6 Int)) × Int × (List Power) × Links × Meter × (List Asked) × za × (List Wait) => (((⟨x.1, x.2.1, (⟨x.2.2.1, x.2.2.2.1, x.2.2.2.2.1, x.2.2.2.2.2.2.2.2.2.2.2, x.2.2.2.2.2.1⟩ : Stake), x.2.2.2.2.2.2.1, x.2.2.2.2.2.2.2.1, x.2.2.2.2.2.2.2.2.1, x.2.2.2.2.2.2.2.2.2.1⟩ : za), x.2.2.2.2.2.2.2.2.2.2.1) : za × za)) (fun y => (y.1.Height, y.1.Time, y.1.Stake.Bank, y.1.Stake.Validators, y.1.Stake.Shares, y.1.Stake.Next, y.1.Set, y.1.Links, y.1.Meter, y.1.Queue, y.2, y.1.Stake.Waits)) (fun _ => rfl)), ⟨[2, 4], [.nilcell 2 63 98 (.waits [])]⟩, [.cells 61 97, .cells 61 97, .rows 98]⟩
def zayo : St → Option LR := L1 95 5 0 za9v (.exit 1) zauu (fun s => zee s.1 s.2.1 s.2.2.1 s.2.2.2.1 s.2.2.2.2)
theorem za9w : zv (zy76).env 0 (sub zc76 [0, 1, 0, 1, 1, 1, 1]) zayo :=
  zji (A := za9u) zh76 Facts.mix trivial (k := zb1 (sub zc76 [0, 1, 0, 1, 1, 1, 1])) (by kernel_rfl) rfl (by rintro ⟨x0, x1, x2, x3, x4⟩; kernel_rfl)
def za76 : Ann := ⟨[([0, 1, 0, 1, 1, 1, 1], zayo)], [], [], zv76, []⟩
def zkc (a0 : za) (a1 : Int) : Tr (za × Int) :=
  (.bind (zbx a0) fun v1 =>
  (.ite (!v1)
    (.leaf (a0, 2))
    (.ite ((decide (a1 < 0)) || (decide (a1 ≥ 2)))
      (.leaf (a0, 4))
      (.guard ((0 : Int) ≤ a1 ∧ (a1 : Int) < 2)
      (.ite (a0.Links.Gone.get a1)
        (.leaf (a0, 11))
        (.guard ((0 : Int) ≤ a1 ∧ (a1 : Int) < 2)
        (.ite (a0.Links.On.get a1)
          (.leaf (a0, 5))
          (.ite ((decide (a0.Height < 1)) || (((a0.Set.length : Nat) : Int) == 0))
            (.leaf (a0, 13))
            (.guard ((zar a0.Set).isSome = true)
            (.guard ((0 : Int) ≤ a1 ∧ (a1 : Int) < 2)
            (.bind (zz a0.Stake.Waits) fun v2 =>
            (.bind (zjb a1 ((v2.length : Nat) : Int) 0 ({ (a0 : za) with Stake := { (a0.Stake : Stake) with Waits := v2 }, Links := (⟨(a0.Links.On.set a1 true), (a0.Links.Gone.set a1 false), (a0.Links.Base.set a1 a0.Height), (a0.Links.Told.set a1 ((zar a0.Set).getD default)), (a0.Links.Fresh.set a1 false), (a0.Links.Done.set a1 []), (a0.Links.Said.set a1 []), (a0.Links.Due.set a1 []), (a0.Links.Got.set a1 0), (a0.Links.Closed.set a1 false), (a0.Links.SHeight.set a1 0), (a0.Links.STime.set a1 0), (a0.Links.SSaid.set a1 0), (a0.Links.SGot.set a1 0)⟩ : Links) }) (default : za)) fun v3 =>
            (.leaf (v3.1, 0))))))))))))))
def zas (a0 : za) (a1 : Int) : Option (za × Int) := (zkc a0 a1).run
def zr76 : LQ (za × Int) := (LQ.seq (Par.q (Par.ofLP providerL)) (Par.q intP))
def zuj : LQ (za × Int) := (LQ.seq (Par.q (Par.ofLP providerL)) (Par.q intP))
def zws : SpecT := zx 0 zr76 2 [] (fun s => zkc s.1 s.2) default zuj 2 []
theorem z3v : zj Tryz.prog 82 (zws).spec :=
  zf (A := za76) zh76 Facts.mix Tryz.func82 (c := zc76) (by kernel_rfl) (Lc := 0) ⟨za9w, trivial⟩ zr76 2 5 [] (fun s => zkc s.1 s.2) default zuj 2 [] [.pubB 4] (by decide) (by kernel_rfl) (by rfl) (by decide) (by decide) (by rfl)
    (by rintro ⟨a0, a1⟩; kernel_rfl)
noncomputable def zc77 : Code := Tryz.f137.body.getD .skip
def zv77 : List (List Nat) := [[1, 2], [3]]
noncomputable def zy77 : EnvT := ⟨Tryz.prog, zw []⟩
theorem zh77 : (zy77).Ok := ze trivial
def za77 : Ann := ⟨[], [], [], zv77, []⟩
def zgq (a0 : Asked) (a1 : Int) : Tr (Bool × Int) :=
  (.leaf (a0.C == a1, a1))
def zfl (a0 : Asked) (a1 : Int) : Option (Bool × Int) := (zgq a0 a1).run
def zr77 : LQ (Asked × Int) := (LQ.seq (Par.q (Par.ofLP zalc)) (LQ.skip (LQ.const (.ptr 0 0)) (Par.q intP)))
def zpi : LQ (Bool × Int) := (LQ.seq (Par.q boolP) (Par.q intP))
def zkt : SpecT := zx 1 zr77 2 [.cells 3 1] (fun s => zgq s.1 s.2) default zpi 1 [.cells 3 1]
theorem zpj : zj Tryz.prog 137 (zkt).spec :=
  zf (A := za77) zh77 Facts.mix Tryz.func137 (c := zc77) (by kernel_rfl) (Lc := 1) trivial zr77 2 4 [.cells 3 1] (fun s => zgq s.1 s.2) default zpi 1 [.cells 3 1] [] (by decide) (by kernel_rfl) (by rfl) (by decide) (by decide) (by rfl)
    (by rintro ⟨a0, a1⟩; kernel_rfl)
noncomputable def zc78 : Code := Tryz.f75.body.getD .skip
def zv78 : List (List Nat) := [[0, 1], [0, 1, 7, 8], [0, 1, 7, 8, 9], [0, 1, 5, 7, 8], [0, 1, 5, 7, 8, 16], [4], [0, 1, 7, 8], [4]]
noncomputable def zy78 : EnvT := ⟨Tryz.prog, zw [(137, zkt)]⟩
theorem zh78 : (zy78).Ok := ze ⟨zpj, trivial⟩
def zaj (x0 : Int) (x1 : Int) (x2 : Int) (x3 : (List Asked)) : Tr ((Int × Int × Int × (List Asked)) ⊕ ((Int × Int × (List Asked)) ⊕ (Int × (List Asked)))) :=
  (.ite (decide (x1 < x0))
    (.guard ((0 : Int) ≤ x1 ∧ x1 < ((Sl.len (.asked x3) : Nat) : Int))
    (.bind (zfl (x3.getD x1.toNat default) x2) fun v1 =>
    (.ite (v1.1)
      (.leaf (.inr (.inl (x1, v1.2, x3))))
      (.leaf (.inl (x0, IntKind.i64.wrap (x1 + 1), v1.2, x3))))))
    (.leaf (.inr (.inr (x2, x3)))))
def zb6 (x0 : Int) (x1 : Int) (x2 : Int) (x3 : (List Asked)) : Option ((Int × Int × (List Asked)) ⊕ (Int × (List Asked))) := zd5 (fun s : Int × Int × Int × (List Asked) => (zaj s.1 s.2.1 s.2.2.1 s.2.2.2).run) (x0, x1, x2, x3)
def za9y : Ann := ⟨[], [], [], zv78, []⟩
def za9z : EndD (Int × Int × Int × (List Asked)) := ⟨(LQ.skip (LQ.const (.own 1)) (LQ.skip (LQ.const (.fn 137 [.ptr 0 0])) (LQ.seq (Par.q intP) (LQ.seq (Par.q intP) (LQ.seq (Par.q intP) (Par.q zfn)))))), ⟨[0, 1, 7, 8], [.nilown 0 101 (.asked [])]⟩, [.cells 3 1, .rows 101]⟩
def zauv : EndD (Int × Int × (List Asked)) := ⟨(LQ.seq (Par.q intP) (LQ.seq (Par.q intP) (Par.q zfn))), ⟨[4], []⟩, [.cells 3 1, .rows 101]⟩
def zauw : EndD (Int × (List Asked)) := ⟨(LQ.seq (Par.q intP) (Par.q zfn)), ⟨[], []⟩, [.cells 3 1, .rows 101]⟩
def zayp : St → Option LR := L2 19 4 2 za9z .ret zauv (.exit 0) zauw (fun s => zaj s.1 s.2.1 s.2.2.1 s.2.2.2)
theorem zbaa : zv (zy78).env 2 (sub zc78 [0, 1, 0, 1]) zayp :=
  zlc (A := za9y) zh78 Facts.mix trivial (k := zb1 (sub zc78 [0, 1, 0, 1])) (by kernel_rfl) rfl rfl (by rintro ⟨x0, x1, x2, x3⟩; kernel_rfl)
def za78 : Ann := ⟨[([0, 1, 0, 1], zayp)], [], [], zv78, []⟩
def zbr (a0 : Int) (a1 : (List Asked)) : Tr (Int × Int × (List Asked)) :=
  (.two (zb6 ((a1.length : Nat) : Int) 0 a0 a1) (fun v2 =>
    (.leaf (v2.1, v2.2.1, v2.2.2))) (fun v3 =>
    (.leaf (-1, v3.1, v3.2))))
def zbn (a0 : Int) (a1 : (List Asked)) : Option (Int × Int × (List Asked)) := (zbr a0 a1).run
def zr78 : LQ (Int × (List Asked)) := (LQ.skip (LQ.const (.own 1)) (LQ.skip (LQ.const (.fn 137 [.ptr 0 0])) (LQ.seq (Par.q intP) (Par.q zfn))))
def zf1 : LQ (Int × Int × (List Asked)) := (LQ.seq (Par.q intP) (LQ.seq (Par.q intP) (Par.q zfn)))
def zge : SpecT := zx 2 zr78 2 [.cells 3 1, .rows 101] (fun s => zbr s.1 s.2) default zf1 1 [.cells 3 1, .rows 101]
theorem zm9 : zj Tryz.prog 75 (zge).spec :=
  zf (A := za78) zh78 Facts.mix Tryz.func75 (c := zc78) (by kernel_rfl) (Lc := 2) ⟨zbaa, trivial⟩ zr78 2 4 [.cells 3 1, .rows 101] (fun s => zbr s.1 s.2) default zf1 1 [.cells 3 1, .rows 101] [] (by decide) (by kernel_rfl) (by rfl) (by decide) (by decide) (by rfl)
    (by rintro ⟨a0, a1⟩; kernel_rfl)
noncomputable def zc79 : Code := Tryz.f136.body.getD .skip
def zv79 : List (List Nat) := [[0, 1], [0, 1, 5], [0, 1, 5, 12], [4], [0, 1, 5, 6], [0, 1, 5, 6, 19], [0, 1, 5, 6], [0, 1, 5, 6, 7], [0, 1, 5, 6, 7, 29], [0, 1, 5, 6], [0, 1, 5, 6], [0, 5], [4]]
noncomputable def zy79 : EnvT := ⟨Tryz.prog, zw [(75, zge), (137, zkt)]⟩
theorem zh79 : (zy79).Ok := ze ⟨zm9, zpj, trivial⟩
def zayq : St → Option LR := clearL 0 5 36 37 38
theorem zbac : zv (zy79).env 1 (sub zc79 [0, 1, 1, 1, 1]) zayq :=
  zaoz (T := 59) (E := 101) (z := (zn Tryz.prog (zeroValue 101)).getD undef) (by kernel_rfl) (by kernel_rfl) (by kernel_rfl) (by kernel_rfl) (by decide) (by decide) (by kernel_rfl) (by kernel_rfl) (by kernel_rfl) (by kernel_rfl)
def zap (x0 : Int) (x1 : Int) (x2 : Int) (x3 : (List Asked)) : Tr ((Int × Int × Int × (List Asked)) ⊕ (Int × Int × (List Asked))) :=
  (.ite (decide (x1 < ((x3.length : Nat) : Int)))
    (.guard ((0 : Int) ≤ x1 ∧ x1 < ((Sl.len (.asked x3) : Nat) : Int))
    (.bind (zfl (x3.getD x1.toNat default) x2) fun v2 =>
    (.ite (!v2.1)
      (.guard ((0 : Int) ≤ x0 ∧ x0 < ((Sl.len (.asked x3) : Nat) : Int))
      (.leaf (.inl (IntKind.i64.wrap (x0 + 1), IntKind.i64.wrap (x1 + 1), v2.2, x3.set x0.toNat (x3.getD x1.toNat default)))))
      (.leaf (.inl (x0, IntKind.i64.wrap (x1 + 1), v2.2, x3))))))
    (.leaf (.inr (x0, x2, x3))))
def zcb (x0 : Int) (x1 : Int) (x2 : Int) (x3 : (List Asked)) : Option (Int × Int × (List Asked)) := zd5 (fun s : Int × Int × Int × (List Asked) => (zap s.1 s.2.1 s.2.2.1 s.2.2.2).run) (x0, x1, x2, x3)
def zbad : Ann := ⟨[], [], [], zv79, []⟩
def zbae : EndD (Int × Int × Int × (List Asked)) := ⟨(LQ.skip (LQ.const (.own 1)) (LQ.skip (LQ.const (.fn 137 [.ptr 0 0])) (LQ.seq (Par.q intP) (LQ.seq (Par.q intP) (LQ.seq (Par.q intP) (Par.q zfn)))))), ⟨[0, 1, 5, 6], [.nilown 0 101 (.asked [])]⟩, [.cells 3 1, .rows 101]⟩
def zaux : EndD (Int × Int × (List Asked)) := ⟨(LQ.skip (LQ.const (.own 1)) (LQ.seq (Par.q intP) (LQ.seq (Par.q intP) (Par.q zfn)))), ⟨[0, 5], [.nilown 0 101 (.asked [])]⟩, [.cells 3 1, .rows 101]⟩
def zayr : St → Option LR := L1 42 5 1 zbae (.exit 0) zaux (fun s => zap s.1 s.2.1 s.2.2.1 s.2.2.2)
theorem zbaf : zv (zy79).env 1 (sub zc79 [0, 1, 0, 1, 1, 1]) zayr :=
  zji (A := zbad) zh79 Facts.mix trivial (k := zb1 (sub zc79 [0, 1, 0, 1, 1, 1])) (by kernel_rfl) rfl (by rintro ⟨x0, x1, x2, x3⟩; kernel_rfl)
def za79 : Ann := ⟨[([0, 1, 0, 1, 1, 1], zayr), ([0, 1, 1, 1, 1], zayq)], [], [], zv79, []⟩
def zby (a0 : Int) (a1 : (List Asked)) : Tr (Int × (List Asked)) :=
  (.bind (zbn a0 a1) fun v1 =>
  (.ite (v1.1 == (-1))
    (.leaf (v1.2.1, v1.2.2))
    (.bind (zcb v1.1 (IntKind.i64.wrap (v1.1 + 1)) v1.2.1 v1.2.2) fun v3 =>
    (.bind (zadj v3.2.2 v3.1) fun v4 =>
    (.guard ((0 : Int) ≤ v3.1 ∧ v3.1 ≤ ((Sl.len (.asked v4) : Nat) : Int))
    (.leaf (v3.2.1, ((v4.drop 0).take (v3.1.toNat - 0)))))))))
def zdk (a0 : Int) (a1 : (List Asked)) : Option (Int × (List Asked)) := (zby a0 a1).run
def zr79 : LQ (Int × (List Asked)) := (LQ.skip (LQ.const (.own 1)) (LQ.skip (LQ.const (.fn 137 [.ptr 0 0])) (LQ.seq (Par.q intP) (Par.q zfn))))
def zgf : LQ (Int × (List Asked)) := (LQ.skip (LQ.const (.own 1)) (LQ.seq (Par.q intP) (Par.q zfn)))
def zg3 : SpecT := zx 1 zr79 2 [.cells 3 1, .rows 101] (fun s => zby s.1 s.2) default zgf 1 [.cells 3 1, .rows 101]
theorem zot : zj Tryz.prog 136 (zg3).spec :=
  zf (A := za79) zh79 Facts.mix Tryz.func136 (c := zc79) (by kernel_rfl) (Lc := 1) ⟨zbaf, zbac, trivial⟩ zr79 2 5 [.cells 3 1, .rows 101] (fun s => zby s.1 s.2) default zgf 1 [.cells 3 1, .rows 101] [.nilown 4 101 (.asked [])] (by decide) (by kernel_rfl) (by rfl) (by decide) (by decide) (by rfl)
    (by rintro ⟨a0, a1⟩; kernel_rfl)
noncomputable def zc80 : Code := Tryz.f110.body.getD .skip
def zv80 : List (List Nat) := [[2, 3, 4], [2, 3, 4, 23], [4], [2, 3, 4], [2, 3, 4], [2, 3, 4], [2, 4], [4]]
noncomputable def zy80 : EnvT := ⟨Tryz.prog, zw [(25, zdj), (121, zq8), (134, zfo), (136, zg3)]⟩
theorem zh80 : (zy80).Ok := ze ⟨zdx, zwl, zjq, zot, trivial⟩
def za80 : Ann := ⟨[], [], [], zv80, []⟩
def ziz (a0 : za) (a1 : Int) : Tr (za) :=
  (.bind (zbx a0) fun v1 =>
  (.guard (((((!v1) || (decide (a1 < 0))) || (decide (a1 ≥ 2))) = false → ((0 : Int) ≤ a1 ∧ (a1 : Int) < 2) ∧ True))
  (.ite ((((!v1) || (decide (a1 < 0))) || (decide (a1 ≥ 2))) || (!(a0.Links.On.get a1)))
    (.leaf a0)
    (.guard ((0 : Int) ≤ a1 ∧ (a1 : Int) < 2)
    (.guard ((0 : Int) ≤ a1 ∧ (a1 : Int) < 2)
    (.guard ((0 : Int) ≤ a1 ∧ (a1 : Int) < 2)
    (.guard ((0 : Int) ≤ a1 ∧ (a1 : Int) < 2)
    (.guard ((0 : Int) ≤ a1 ∧ (a1 : Int) < 2)
    (.bind (zgy a0.Stake a1 1099511627776) fun v2 =>
    (.bind (zax a0.Queue) fun v3 =>
    (.bind (zdk a1 v3) fun v4 =>
    (.leaf ({ (a0 : za) with Stake := v2, Links := { (a0.Links : Links) with On := (a0.Links.On.set a1 false), Gone := (a0.Links.Gone.set a1 true), Fresh := (a0.Links.Fresh.set a1 false), Done := (a0.Links.Done.set a1 []), Closed := (a0.Links.Closed.set a1 true) }, Queue := v4.2 })))))))))))))
def zdv (a0 : za) (a1 : Int) : Option (za) := (ziz a0 a1).run
def zr80 : LQ (za × Int) := (LQ.seq (Par.q (Par.ofLP providerL)) (Par.q intP))
def zs8 : LQ (za) := (Par.q (Par.ofLP providerL))
def zuk : SpecT := zx 0 zr80 2 [] (fun s => ziz s.1 s.2) default zs8 1 []
theorem z23 : zj Tryz.prog 110 (zuk).spec :=
  zf (A := za80) zh80 Facts.mix Tryz.func110 (c := zc80) (by kernel_rfl) (Lc := 0) trivial zr80 2 7 [] (fun s => ziz s.1 s.2) default zs8 1 [] [.pubB 4] (by decide) (by kernel_rfl) (by rfl) (by decide) (by decide) (by rfl)
    (by rintro ⟨a0, a1⟩; kernel_rfl)
noncomputable def zc81 : Code := Tryz.f107.body.getD .skip
def zv81 : List (List Nat) := [[1, 2, 3, 6], [1, 3, 6, 8, 9], [1, 3, 6, 8, 9, 15], [6, 7], [1, 3, 6, 8, 9, 20], [6, 7], [1, 3, 6, 8, 9, 36], [6, 7], [1, 3, 6, 8, 41], [6, 7], [3, 6], [6, 7]]
noncomputable def zy81 : EnvT := ⟨Tryz.prog, zw [(37, ztp), (25, zdj), (134, zfo)]⟩
theorem zh81 : (zy81).Ok := ze ⟨zxs, zdx, zjq, trivial⟩
def za81 : Ann := ⟨[], [], [], zv81, []⟩
def zl4 (a0 : za) (a1 : Int) (a2 : ByteArray) : Tr (za × Int) :=
  (.bind (zfu a2) fun v1 =>
  (.bind (zbx a0) fun v2 =>
  (.ite (!v2)
    (.leaf (a0, 2))
    (.guard ((((decide (a1 < 0)) || (decide (a1 ≥ 2))) = false → ((0 : Int) ≤ a1 ∧ (a1 : Int) < 2) ∧ True))
    (.ite (((decide (a1 < 0)) || (decide (a1 ≥ 2))) || (!(a0.Links.On.get a1)))
      (.leaf (a0, 4))
      (.ite (v1.2 != 0)
        (.leaf (a0, v1.2))
        (.ite (v1.1.Kind == 1)
          (.leaf (a0, 3))
          (.guard ((zax a0.Queue).isSome = true)
          (.guard ((Sl.len (.asked ((zax a0.Queue).getD default)) + Sl.len (.asked [(⟨a1, v1.1⟩ : Asked)])) * 88 ≤ 140737488355328)
          (.leaf ({ (a0 : za) with Queue := ((zax a0.Queue).getD default) ++ [(⟨a1, v1.1⟩ : Asked)] }, 0)))))))))))
def zbl (a0 : za) (a1 : Int) (a2 : ByteArray) : Option (za × Int) := (zl4 a0 a1 a2).run
def zr81 : LQ (za × Int × ByteArray) := (LQ.seq (Par.q (Par.ofLP providerL)) (LQ.seq (Par.q intP) (Par.q strP)))
def zwt : LQ (za × Int) := (LQ.seq (Par.q (Par.ofLP providerL)) (Par.q intP))
def zx4 : SpecT := zx 0 zr81 3 [] (fun s => zl4 s.1 s.2.1 s.2.2) default zwt 2 []
theorem z5f : zj Tryz.prog 107 (zx4).spec :=
  zf (A := za81) zh81 Facts.mix Tryz.func107 (c := zc81) (by kernel_rfl) (Lc := 0) trivial zr81 3 8 [] (fun s => zl4 s.1 s.2.1 s.2.2) default zwt 2 [] [.pubB 6] (by decide) (by kernel_rfl) (by rfl) (by decide) (by decide) (by rfl)
    (by rintro ⟨a0, a1, a2⟩; kernel_rfl)
noncomputable def zc82 : Code := Tryz.f63.body.getD .skip
def zv82 : List (List Nat) := [[1, 2, 3, 6], [1, 2, 3, 6, 11], [6, 7], [1, 2, 3, 6, 16], [6, 7], [1, 2, 3, 6, 24], [6, 7], [1, 2, 3, 6, 34], [6, 7], [1, 3, 6, 8, 10], [1, 3, 6, 8, 10, 52], [6, 7], [3, 6, 8, 10], [3, 6, 8, 10, 62], [6, 7], [3, 6], [6, 7]]
noncomputable def zy82 : EnvT := ⟨Tryz.prog, zw [(25, zdj), (79, zvm), (80, zxv)]⟩
theorem zh82 : (zy82).Ok := ze ⟨zdx, z0d, z2u, trivial⟩
def za82 : Ann := ⟨[], [], [], zv82, []⟩
def zgr (a0 : za) (a1 : Int) (a2 : Int) : Tr (za × Int) :=
  (.bind (zbx a0) fun v1 =>
  (.ite (!v1)
    (.leaf (a0, 2))
    (.ite ((decide (a1 < 0)) || (decide (a1 ≥ 6)))
      (.leaf (a0, 4))
      (.ite ((decide (a2 < 1)) || (decide (a2 > a0.Height)))
        (.leaf (a0, 2))
        (.guard ((0 : Int) ≤ a1 ∧ (a1 : Int) < 6)
        (.ite (a0.Stake.Validators.Dead.get a1)
          (.leaf (a0, 15))
          (.bind (zg9 a0.Stake a1 a2 50) fun v2 =>
          (.ite (v2.2.2 != 0)
            (.leaf (a0, v2.2.2))
            (.bind (zlu v2.1 a1) fun v3 =>
            (.ite (v3.2 != 0)
              (.leaf (a0, v3.2))
              (.leaf ({ (a0 : za) with Stake := v3.1 }, 0))))))))))))
def zjc (a0 : za) (a1 : Int) (a2 : Int) : Option (za × Int) := (zgr a0 a1 a2).run
def zr82 : LQ (za × Int × Int) := (LQ.seq (Par.q (Par.ofLP providerL)) (LQ.seq (Par.q intP) (Par.q intP)))
def zpk : LQ (za × Int) := (LQ.seq (Par.q (Par.ofLP providerL)) (Par.q intP))
def zri : SpecT := zx 0 zr82 3 [] (fun s => zgr s.1 s.2.1 s.2.2) default zpk 2 []
theorem zzr : zj Tryz.prog 63 (zri).spec :=
  zf (A := za82) zh82 Facts.mix Tryz.func63 (c := zc82) (by kernel_rfl) (Lc := 0) trivial zr82 3 5 [] (fun s => zgr s.1 s.2.1 s.2.2) default zpk 2 [] [.pubB 6] (by decide) (by kernel_rfl) (by rfl) (by decide) (by decide) (by rfl)
    (by rintro ⟨a0, a1, a2⟩; kernel_rfl)
noncomputable def zc83 : Code := Tryz.f101.body.getD .skip
def zv83 : List (List Nat) := [[0, 2, 6], [0, 2, 6, 7], [0, 2, 6, 7, 49], [0, 2, 6, 8, 9], [0, 2, 6, 8, 65], [0, 6, 9, 10], [0, 6, 10, 78], []]
noncomputable def zy83 : EnvT := ⟨Tryz.prog, zw [(132, z4y), (28, zjt), (133, z3s), (102, zep)]⟩
theorem zh83 : (zy83).Ok := ze ⟨zaby, zlq, z62, zhw, trivial⟩
def za83 : Ann := ⟨[], [], [], zv83, []⟩
def zl5 (a0 : Int) (a1 : Int) (a2 : za) : Tr (za) :=
  (.guard ((0 : Int) ≤ a0 ∧ (a0 : Int) < 2)
  (.guard ((ze1 (a2.Links.Told.get a0) a2.Set).isSome = true)
  (.ite ((!(a2.Links.On.get a0)) || (((((((ze1 (a2.Links.Told.get a0) a2.Set).getD default).length : Nat) : Int) == 0) && (!(a2.Links.Fresh.get a0))) && ((((a2.Links.Done.get a0).length : Nat) : Int) == 0)))
    (.leaf a2)
    (.guard ((z5 (⟨1, a2.Height, 0, 0, ((ze1 (a2.Links.Told.get a0) a2.Set).getD default), a2.Links.Done.get a0⟩ : Packet)).isSome = true)
    (.ite ((((z5 (⟨1, a2.Height, 0, 0, ((ze1 (a2.Links.Told.get a0) a2.Set).getD default), a2.Links.Done.get a0⟩ : Packet)).getD default).2) != 0)
      (.leaf a2)
      (.bind (zvh (⟨a2.Links.Said.get a0, a2.Links.Due.get a0, a2.Links.Got.get a0, a2.Links.Closed.get a0⟩ : zbk) (((z5 (⟨1, a2.Height, 0, 0, ((ze1 (a2.Links.Told.get a0) a2.Set).getD default), a2.Links.Done.get a0⟩ : Packet)).getD default).1) (IntKind.i64.wrap (a1 + 40))) fun v1 =>
      (.ite (v1.2 != 0)
        (.leaf a2)
        (.guard ((zar a2.Set).isSome = true)
        (.leaf ({ (a2 : za) with Links := { (a2.Links : Links) with Told := (a2.Links.Told.set a0 ((zar a2.Set).getD default)), Fresh := (a2.Links.Fresh.set a0 false), Done := (a2.Links.Done.set a0 []), Said := (a2.Links.Said.set a0 v1.1.Said), Due := (a2.Links.Due.set a0 v1.1.Due), Got := (a2.Links.Got.set a0 v1.1.Got), Closed := (a2.Links.Closed.set a0 v1.1.Closed) } }))))))))))
def zkd (a0 : Int) (a1 : Int) (a2 : za) : Option (za) := (zl5 a0 a1 a2).run
def zr83 : LQ (Int × Int × za) := (LQ.skip (LQ.const (.ptr 0 0)) (LQ.seq (Par.q intP) (LQ.seq (Par.q intP) (LP.q providerL))))
def zwu : LQ (za) := (LP.q providerL)
def zx5 : SpecT := zx 1 zr83 3 [.cells 61 97] (fun s => zl5 s.1 s.2.1 s.2.2) default zwu 0 [.cells 61 97]
theorem z5g : zj Tryz.prog 101 (zx5).spec :=
  zf (A := za83) zh83 Facts.mix Tryz.func101 (c := zc83) (by kernel_rfl) (Lc := 1) trivial zr83 3 4 [.cells 61 97] (fun s => zl5 s.1 s.2.1 s.2.2) default zwu 0 [.cells 61 97] [.pubN 0] (by decide) (by kernel_rfl) (by rfl) (by decide) (by decide) (by rfl)
    (by rintro ⟨a0, a1, a2⟩; kernel_rfl)
noncomputable def zc84 : Code := Tryz.f152.body.getD .skip
def zv84 : List (List Nat) := [[0], [2]]
noncomputable def zy84 : EnvT := ⟨Tryz.prog, zw []⟩
theorem zh84 : (zy84).Ok := ze trivial
def za84 : Ann := ⟨[], [], [], zv84, []⟩
def zl6 (a0 : Int) : Tr (Bool) :=
  (.leaf (a0 != a0))
def zg4 (a0 : Int) : Option (Bool) := (zl6 a0).run
def zr84 : LQ (Int) := (Par.q intP)
def zwv : LQ (Bool) := (Par.q boolP)
def zx6 : SpecT := zx 0 zr84 1 [] (fun s => zl6 s) default zwv 1 []
theorem z5h : zj Tryz.prog 152 (zx6).spec :=
  zf (A := za84) zh84 Facts.mix Tryz.func152 (c := zc84) (by kernel_rfl) (Lc := 0) trivial zr84 1 2 [] (fun s => zl6 s) default zwv 1 [] [] (by decide) (by kernel_rfl) (by rfl) (by decide) (by decide) (by rfl)
    (by rintro a0; kernel_rfl)
noncomputable def zc85 : Code := Tryz.f140.body.getD .skip
def zv85 : List (List Nat) := [[0, 1], [4]]
noncomputable def zy85 : EnvT := ⟨Tryz.prog, zw [(152, zx6)]⟩
theorem zh85 : (zy85).Ok := ze ⟨z5h, trivial⟩
def za85 : Ann := ⟨[], [], [], zv85, []⟩
def zn3 (a0 : Int) (a1 : Int) : Tr (Bool) :=
  (.bind (zg4 a0) fun v1 =>
  (.guard ((v1 = true → ((zg4 a1).isSome = true) ∧ True))
  (.leaf ((v1 && (!((zg4 a1).getD default))) || (decide (a0 < a1))))))
def zrj (a0 : Int) (a1 : Int) : Option (Bool) := (zn3 a0 a1).run
def zr85 : LQ (Int × Int) := (LQ.seq (Par.q intP) (Par.q intP))
def zx7 : LQ (Bool) := (Par.q boolP)
def z0j : SpecT := zx 0 zr85 2 [] (fun s => zn3 s.1 s.2) default zx7 1 []
theorem z7e : zj Tryz.prog 140 (z0j).spec :=
  zf (A := za85) zh85 Facts.mix Tryz.func140 (c := zc85) (by kernel_rfl) (Lc := 0) trivial zr85 2 2 [] (fun s => zn3 s.1 s.2) default zx7 1 [] [] (by decide) (by kernel_rfl) (by rfl) (by decide) (by decide) (by rfl)
    (by rintro ⟨a0, a1⟩; kernel_rfl)
noncomputable def zc86 : Code := Tryz.f141.body.getD .skip
def zv86 : List (List Nat) := [[0], [2]]
noncomputable def zy86 : EnvT := ⟨Tryz.prog, zw []⟩
theorem zh86 : (zy86).Ok := ze trivial
def za86 : Ann := ⟨[], [], [], zv86, []⟩
def zhm (a0 : Int) : Tr (Bool) :=
  (.leaf (a0 != a0))
def zb0 (a0 : Int) : Option (Bool) := (zhm a0).run
def zr86 : LQ (Int) := (Par.q intP)
def zrk : LQ (Bool) := (Par.q boolP)
def zs9 : SpecT := zx 0 zr86 1 [] (fun s => zhm s) default zrk 1 []
theorem z1b : zj Tryz.prog 141 (zs9).spec :=
  zf (A := za86) zh86 Facts.mix Tryz.func141 (c := zc86) (by kernel_rfl) (Lc := 0) trivial zr86 1 2 [] (fun s => zhm s) default zrk 1 [] [] (by decide) (by kernel_rfl) (by rfl) (by decide) (by decide) (by rfl)
    (by rintro a0; kernel_rfl)
noncomputable def zc87 : Code := Tryz.f124.body.getD .skip
def zv87 : List (List Nat) := [[0, 1], [0, 1, 6], [0, 1, 6, 7, 8], [0, 1, 6, 7, 8, 15], [0, 1, 6, 7, 8, 9], [0, 1, 6, 7, 8, 9, 27], [0, 1, 6, 7, 8], [0, 1, 6, 7, 8], [4, 5]]
noncomputable def zy87 : EnvT := ⟨Tryz.prog, zw [(140, z0j), (141, zs9)]⟩
theorem zh87 : (zy87).Ok := ze ⟨z7e, z1b, trivial⟩
def zb3 (x0 : (List Int)) (x1 : Int) (x2 : Int) (x3 : Int) (x4 : Int) : Tr (((List Int) × Int × Int × Int × Int) ⊕ ((List Int) × Int × Int × Int)) :=
  (.ite (decide (x3 < x4))
    (.guard ((0 : Int) ≤ 1)
    (.guard ((0 : Int) ≤ (IntKind.i64.wrap (Int.fdiv (IntKind.u64.wrap (IntKind.i64.wrap (x3 + x4))) (2 ^ 1))) ∧ (IntKind.i64.wrap (Int.fdiv (IntKind.u64.wrap (IntKind.i64.wrap (x3 + x4))) (2 ^ 1))) < ((Sl.len (.ints x0) : Nat) : Int))
    (.bind (zrj (x0.getD ((IntKind.i64.wrap (Int.fdiv (IntKind.u64.wrap (IntKind.i64.wrap (x3 + x4))) (2 ^ 1))).toNat) 0) x1) fun v1 =>
    (.ite (v1)
      (.leaf (.inl (x0, x1, x2, IntKind.i64.wrap ((IntKind.i64.wrap (Int.fdiv (IntKind.u64.wrap (IntKind.i64.wrap (x3 + x4))) (2 ^ 1))) + 1), x4)))
      (.leaf (.inl (x0, x1, x2, x3, IntKind.i64.wrap (Int.fdiv (IntKind.u64.wrap (IntKind.i64.wrap (x3 + x4))) (2 ^ 1)))))))))
    (.leaf (.inr (x0, x1, x2, x3))))
def zg5 (x0 : (List Int)) (x1 : Int) (x2 : Int) (x3 : Int) (x4 : Int) : Option ((List Int) × Int × Int × Int) := zd5 (fun s : (List Int) × Int × Int × Int × Int => (zb3 s.1 s.2.1 s.2.2.1 s.2.2.2.1 s.2.2.2.2).run) (x0, x1, x2, x3, x4)
def zbah : Ann := ⟨[], [], [], zv87, []⟩
def zbai : EndD ((List Int) × Int × Int × Int × Int) := ⟨(LQ.seq (Par.q zhs) (LQ.seq (Par.q intP) (LQ.seq (Par.q intP) (LQ.seq (Par.q intP) (Par.q intP))))), ⟨[0, 1, 6, 7, 8], [.pub 0, .nilsl 0 (.ints [])]⟩, []⟩
def zauy : EndD ((List Int) × Int × Int × Int) := ⟨(LQ.seq (Par.q zhs) (LQ.seq (Par.q intP) (LQ.seq (Par.q intP) (Par.q intP)))), ⟨[0, 1, 6, 7], [.pub 0, .nilsl 0 (.ints [])]⟩, []⟩
def zays : St → Option LR := L1 54 2 0 zbai (.exit 0) zauy (fun s => zb3 s.1 s.2.1 s.2.2.1 s.2.2.2.1 s.2.2.2.2)
theorem zbaj : zv (zy87).env 0 (sub zc87 [0, 0, 1, 1, 1]) zays :=
  zji (A := zbah) zh87 Facts.mix trivial (k := zb1 (sub zc87 [0, 0, 1, 1, 1])) (by kernel_rfl) rfl (by rintro ⟨x0, x1, x2, x3, x4⟩; kernel_rfl)
def za87 : Ann := ⟨[([0, 0, 1, 1, 1], zays)], [], [], zv87, []⟩
def zde (a0 : (List Int)) (a1 : Int) : Tr (Int × Bool) :=
  (.bind (zg5 a0 a1 ((a0.length : Nat) : Int) 0 ((a0.length : Nat) : Int)) fun v2 =>
  (.guard (((decide (v2.2.2.2 < v2.2.2.1)) = true → ((0 : Int) ≤ v2.2.2.2 ∧ v2.2.2.2 < ((Sl.len (.ints v2.1) : Nat) : Int)) ∧ True))
  (.guard ((((v2.1.getD v2.2.2.2.toNat 0) == v2.2.1) = false → ((decide (v2.2.2.2 < v2.2.2.1)) = true → ((0 : Int) ≤ v2.2.2.2 ∧ v2.2.2.2 < ((Sl.len (.ints v2.1) : Nat) : Int)) ∧ True)))
  (.guard ((((v2.1.getD v2.2.2.2.toNat 0) == v2.2.1) = false → ((decide (v2.2.2.2 < v2.2.2.1)) = true → ((zb0 (v2.1.getD v2.2.2.2.toNat 0)).isSome = true) ∧ True)))
  (.guard ((((zb0 (v2.1.getD v2.2.2.2.toNat 0)).getD default) = true → (((v2.1.getD v2.2.2.2.toNat 0) == v2.2.1) = false → ((decide (v2.2.2.2 < v2.2.2.1)) = true → ((zb0 v2.2.1).isSome = true) ∧ True))))
  (.leaf (v2.2.2.2, (decide (v2.2.2.2 < v2.2.2.1)) && (((v2.1.getD v2.2.2.2.toNat 0) == v2.2.1) || (((zb0 (v2.1.getD v2.2.2.2.toNat 0)).getD default) && ((zb0 v2.2.1).getD default))))))))))
def zy (a0 : (List Int)) (a1 : Int) : Option (Int × Bool) := (zde a0 a1).run
def zr87 : LQ ((List Int) × Int) := (LQ.seq (Par.q zhs) (Par.q intP))
def zi5 : LQ (Int × Bool) := (LQ.seq (Par.q intP) (Par.q boolP))
def zjy : SpecT := zx 0 zr87 2 [] (fun s => zde s.1 s.2) default zi5 2 []
theorem zrz : zj Tryz.prog 124 (zjy).spec :=
  zf (A := za87) zh87 Facts.mix Tryz.func124 (c := zc87) (by kernel_rfl) (Lc := 0) ⟨zbaj, trivial⟩ zr87 2 2 [] (fun s => zde s.1 s.2) default zi5 2 [] [] (by decide) (by kernel_rfl) (by rfl) (by decide) (by decide) (by rfl)
    (by rintro ⟨a0, a1⟩; kernel_rfl)
noncomputable def zc88 : Code := Tryz.f98.body.getD .skip
def zv88 : List (List Nat) := [[0, 3], [0, 3, 5], [0, 3, 5, 6], [0, 3, 5, 6, 28], [0, 3, 5, 6, 28, 29], [], [0, 3, 5, 6, 28, 44], [0, 3, 5, 6, 48], [0, 3, 6, 7, 8], [0, 3, 6, 7, 62], [4], [0, 3, 6], [3, 6], [3, 6, 9, 10], [3, 6, 9, 93], [], [0, 3, 5, 6, 108], [0, 3, 6, 112], [0, 3], [], [4]]
noncomputable def zy88 : EnvT := ⟨Tryz.prog, zw [(121, zq8), (122, z4s), (123, z4x), (124, zjy), (126, zlj), (125, F_slices_Insert_int), (79, zvm), (80, zxv)]⟩
theorem zh88 : (zy88).Ok := ze ⟨zwl, zabw, zabx, zrz, zq4, zzm, z0d, z2u, trivial⟩
def za88 : Ann := ⟨[], [], [], zv88, []⟩
def zl7 (a0 : Asked) (a1 : za) : Tr (Bool × za) :=
  (.guard ((0 : Int) ≤ a0.P.V ∧ (a0.P.V : Int) < 6)
  (.guard ((0 : Int) ≤ a0.C ∧ (a0.C : Int) < 2)
  (.ite (a0.P.Kind == 2)
    (.guard ((zgy a1.Stake a0.C a0.P.Id).isSome = true)
    (.leaf (true, { (a1 : za) with Stake := ((zgy a1.Stake a0.C a0.P.Id).getD default) })))
    (.ite (a0.P.Kind == 3)
      (.ite (!(a1.Stake.Validators.Jailed.get a0.P.V))
        (.guard ((100 : Int) ≠ 0)
        (.guard ((zio a1.Meter (if (IntKind.i64.wrap (Int.tdiv (a1.Stake.Validators.Tokens.get a0.P.V) 100)) > 1 then (IntKind.i64.wrap (Int.tdiv (a1.Stake.Validators.Tokens.get a0.P.V) 100)) else 1)).isSome = true)
        (.ite (!(((zio a1.Meter (if (IntKind.i64.wrap (Int.tdiv (a1.Stake.Validators.Tokens.get a0.P.V) 100)) > 1 then (IntKind.i64.wrap (Int.tdiv (a1.Stake.Validators.Tokens.get a0.P.V) 100)) else 1)).getD default).2))
          (.leaf (false, a1))
          (.guard ((zlt a1.Stake a0.P.V).isSome = true)
          (.guard ((zy (a1.Links.Done.get a0.C) a0.P.V).isSome = true)
          (.ite (!(((zy (a1.Links.Done.get a0.C) a0.P.V).getD default).2))
            (.guard ((zaf (a1.Links.Done.get a0.C)).isSome = true)
            (.guard ((zcf ((zaf (a1.Links.Done.get a0.C)).getD default) (((zy (a1.Links.Done.get a0.C) a0.P.V).getD default).1) [a0.P.V]).isSome = true)
            (.leaf (true, { (a1 : za) with Stake := (((zlt a1.Stake a0.P.V).getD default).1), Links := { (a1.Links : Links) with Done := (a1.Links.Done.set a0.C ((zcf ((zaf (a1.Links.Done.get a0.C)).getD default) (((zy (a1.Links.Done.get a0.C) a0.P.V).getD default).1) [a0.P.V]).getD default)) }, Meter := (((zio a1.Meter (if (IntKind.i64.wrap (Int.tdiv (a1.Stake.Validators.Tokens.get a0.P.V) 100)) > 1 then (IntKind.i64.wrap (Int.tdiv (a1.Stake.Validators.Tokens.get a0.P.V) 100)) else 1)).getD default).1) }))))
            (.leaf (true, { (a1 : za) with Stake := (((zlt a1.Stake a0.P.V).getD default).1), Meter := (((zio a1.Meter (if (IntKind.i64.wrap (Int.tdiv (a1.Stake.Validators.Tokens.get a0.P.V) 100)) > 1 then (IntKind.i64.wrap (Int.tdiv (a1.Stake.Validators.Tokens.get a0.P.V) 100)) else 1)).getD default).1) }))))))))
        (.guard ((zy (a1.Links.Done.get a0.C) a0.P.V).isSome = true)
        (.ite (!(((zy (a1.Links.Done.get a0.C) a0.P.V).getD default).2))
          (.guard ((zaf (a1.Links.Done.get a0.C)).isSome = true)
          (.guard ((zcf ((zaf (a1.Links.Done.get a0.C)).getD default) (((zy (a1.Links.Done.get a0.C) a0.P.V).getD default).1) [a0.P.V]).isSome = true)
          (.leaf (true, { (a1 : za) with Links := { (a1.Links : Links) with Done := (a1.Links.Done.set a0.C ((zcf ((zaf (a1.Links.Done.get a0.C)).getD default) (((zy (a1.Links.Done.get a0.C) a0.P.V).getD default).1) [a0.P.V]).getD default)) } }))))
          (.leaf (true, a1)))))
      (.ite (a0.P.Kind == 4)
        (.ite (!(a1.Stake.Validators.Dead.get a0.P.V))
          (.guard ((zg9 a1.Stake a0.P.V (if (a1.Links.Base.get a0.C) > a0.P.Id then (a1.Links.Base.get a0.C) else a0.P.Id) 50).isSome = true)
          (.guard ((zlu (((zg9 a1.Stake a0.P.V (if (a1.Links.Base.get a0.C) > a0.P.Id then (a1.Links.Base.get a0.C) else a0.P.Id) 50).getD default).1) a0.P.V).isSome = true)
          (.leaf (true, { (a1 : za) with Stake := (((zlu (((zg9 a1.Stake a0.P.V (if (a1.Links.Base.get a0.C) > a0.P.Id then (a1.Links.Base.get a0.C) else a0.P.Id) 50).getD default).1) a0.P.V).getD default).1) }))))
          (.leaf (true, a1)))
        (.leaf (true, a1)))))))
def zpa (a0 : Asked) (a1 : za) : Option (Bool × za) := (zl7 a0 a1).run
def zr88 : LQ (Asked × za) := (LQ.skip (LQ.const (.ptr 0 0)) (LQ.seq (Par.q (Par.ofLP zalc)) (LP.q providerL)))
def zww : LQ (Bool × za) := (LQ.seq (Par.q boolP) (LP.q providerL))
def zx8 : SpecT := zx 1 zr88 2 [.cells 61 97] (fun s => zl7 s.1 s.2) default zww 1 [.cells 61 97]
theorem z5i : zj Tryz.prog 98 (zx8).spec :=
  zf (A := za88) zh88 Facts.mix Tryz.func98 (c := zc88) (by kernel_rfl) (Lc := 1) trivial zr88 2 9 [.cells 61 97] (fun s => zl7 s.1 s.2) default zww 1 [.cells 61 97] [.pubN 0] (by decide) (by kernel_rfl) (by rfl) (by decide) (by decide) (by rfl)
    (by rintro ⟨a0, a1⟩; kernel_rfl)
noncomputable def zc89 : Code := Tryz.f81.body.getD .skip
def zv89 : List (List Nat) := [[1, 2, 4], [1, 2, 4, 27], [4, 5, 6], [1, 2, 4], [1, 2, 4], [1, 2, 4, 7], [1, 2, 4, 7, 8], [1, 2, 4, 7, 8, 44, 45, 46], [1, 2, 4, 7, 8, 44, 45, 46, 47], [1, 2, 4, 7, 8, 10, 44, 45, 46], [1, 2, 4, 7, 8, 10, 44, 45, 46, 58], [1, 2, 4, 7, 8, 10, 44, 45, 46], [1, 2, 4, 7, 8, 44, 45, 46], [1, 2, 4, 7, 8, 44, 45, 46], [1, 2, 4], [1, 2, 4, 11, 12, 13], [1, 2, 4, 11, 12, 13, 78], [4, 5, 6], [1, 2, 4, 12], [1, 2, 4, 12], [1, 2, 4, 12, 87], [1, 2, 4, 12, 87, 88], [1, 2, 4, 12, 14, 87], [1, 2, 4, 12, 87], [1, 2, 4, 12, 87], [4, 5, 6]]
noncomputable def zy89 : EnvT := ⟨Tryz.prog, zw [(25, zdj), (34, z69), (97, z4r), (98, zx8), (99, z67), (100, z7a), (101, zx5)]⟩
theorem zh89 : (zy89).Ok := ze ⟨zdx, zadx, zabv, z5i, zadw, zady, z5g, trivial⟩
def zf2 (x0 : Int) (x1 : (List Asked)) (x2 : Int) (x3 : Int) (x4 : za) (x5 : za) (x6 : (A2 Bool)) (x7 : (List Asked)) : Tr ((Int × (List Asked) × Int × Int × za × za × (A2 Bool) × (List Asked)) ⊕ (Int × za × za × (List Asked))) :=
  (.ite (decide (x3 < x2))
    (.guard ((0 : Int) ≤ x3 ∧ x3 < ((Sl.len (.asked x1) : Nat) : Int))
    (.guard ((0 : Int) ≤ ((x1.getD x3.toNat default).C) ∧ (((x1.getD x3.toNat default).C) : Int) < 2)
    (.ite (x6.get ((x1.getD x3.toNat default).C))
      (.ite ((true : Bool))
        (.ite ((true : Bool))
          (.ite ((true : Bool))
            (.guard ((0 : Int) ≤ ((x1.getD x3.toNat default).C) ∧ (((x1.getD x3.toNat default).C) : Int) < 2)
            (.guard ((Sl.len (.asked x7) + Sl.len (.asked [(x1.getD x3.toNat default)])) * 88 ≤ 140737488355328)
            (.leaf (.inl (x0, x1, x2, IntKind.i64.wrap (x3 + 1), x4, x5, (x6.set ((x1.getD x3.toNat default).C) true), x7 ++ [(x1.getD x3.toNat default)])))))
            (.leaf (.inl (x0, x1, x2, IntKind.i64.wrap (x3 + 1), x4, x5, x6, x7))))
          .fail)
        .fail)
      (.bind (zpa (x1.getD x3.toNat default) x4) fun v2 =>
      (.ite ((false : Bool) || (!v2.1))
        (.guard ((0 : Int) ≤ ((x1.getD x3.toNat default).C) ∧ (((x1.getD x3.toNat default).C) : Int) < 2)
        (.guard ((Sl.len (.asked x7) + Sl.len (.asked [(x1.getD x3.toNat default)])) * 88 ≤ 140737488355328)
        (.leaf (.inl (x0, x1, x2, IntKind.i64.wrap (x3 + 1), v2.2, x5, (x6.set ((x1.getD x3.toNat default).C) true), x7 ++ [(x1.getD x3.toNat default)])))))
        (.leaf (.inl (x0, x1, x2, IntKind.i64.wrap (x3 + 1), v2.2, x5, x6, x7))))))))
    (.leaf (.inr (x0, x4, x5, x7))))
def zhn (x0 : Int) (x1 : (List Asked)) (x2 : Int) (x3 : Int) (x4 : za) (x5 : za) (x6 : (A2 Bool)) (x7 : (List Asked)) : Option (Int × za × za × (List Asked)) := zd5 (fun s : Int × (List Asked) × Int × Int × za × za × (A2 Bool) × (List Asked) => (zf2 s.1 s.2.1 s.2.2.1 s.2.2.2.1 s.2.2.2.2.1 s.2.2.2.2.2.1 s.2.2.2.2.2.2.1 s.2.2.2.2.2.2.2).run) (x0, x1, x2, x3, x4, x5, x6, x7)
def zban : Ann := ⟨[], [], [], zv89, [(23, [9700002])]⟩
def zbao : EndD (Int × (List Asked) × Int × Int × za × za × (A2 Bool) × (List Asked)) := ⟨(LQ.seq (Par.q intP) (LQ.skip (LQ.const (.ptr 0 0)) (LQ.skip (LQ.const (.ptr 1 0)) (LQ.skip (LQ.const (.own 3)) (LQ.skip (LQ.const (.ptr 2 0)) (LQ.seq (Par.q zfn) (LQ.seq (Par.q intP) (LQ.seq (Par.q intP) (LQ.seq (LP.q providerL) (LQ.seq (LP.q providerL) (LQ.seq (LP.q (a2L (LP.one boolP))) (Par.q zfn)))))))))))), ⟨[1, 2, 4, 7, 8, 44, 45, 46], [.nilown 7 101 (.asked []), .pub 44, .nilsl 44 (.asked [])]⟩, [.cells 61 97, .cells 61 97, .cells 170 2, .rows 101]⟩
def zauz : EndD (Int × za × za × (List Asked)) := ⟨(LQ.seq (Par.q intP) (LQ.skip (LQ.const (.ptr 0 0)) (LQ.skip (LQ.const (.ptr 1 0)) (LQ.skip (LQ.const (.own 2)) (LQ.seq (LP.q providerL) (LQ.seq (LP.q providerL) (Par.q zfn))))))), ⟨[1, 2, 4, 7], [.nilown 7 101 (.asked [])]⟩, [.cells 61 97, .cells 61 97, .rows 101]⟩
def zayu : St → Option LR := L1 96 9 0 zbao (.exit 0) zauz (fun s => zf2 s.1 s.2.1 s.2.2.1 s.2.2.2.1 s.2.2.2.2.1 s.2.2.2.2.2.1 s.2.2.2.2.2.2.1 s.2.2.2.2.2.2.2)
theorem zbap : zv (zy89).env 0 (sub zc89 [0, 1, 0, 1, 1, 1, 1, 1, 1]) zayu :=
  zji (A := zban) zh89 Facts.mix trivial (k := zb1 (sub zc89 [0, 1, 0, 1, 1, 1, 1, 1, 1])) (by kernel_rfl) rfl (by rintro ⟨x0, x1, x2, x3, x4, x5, x6, x7⟩; kernel_rfl)
def zf3 (x0 : Int) (x1 : (List Int)) (x2 : Int) (x3 : za) (x4 : za) : Tr ((Int × (List Int) × Int × za × za) ⊕ ((List Int) × za × za)) :=
  (.ite (decide (x2 < 2))
    (.bind (zkd x2 x0 x3) fun v6 =>
    (.leaf (.inl (x0, x1, IntKind.i64.wrap (x2 + 1), v6, x4))))
    (.leaf (.inr (x1, x3, x4))))
def zl8 (x0 : Int) (x1 : (List Int)) (x2 : Int) (x3 : za) (x4 : za) : Option ((List Int) × za × za) := zd5 (fun s : Int × (List Int) × Int × za × za => (zf3 s.1 s.2.1 s.2.2.1 s.2.2.2.1 s.2.2.2.2).run) (x0, x1, x2, x3, x4)
def zbaq : Ann := ⟨[], [], [], zv89, [(23, [9700002])]⟩
def zbar : EndD (Int × (List Int) × Int × za × za) := ⟨(LQ.seq (Par.q intP) (LQ.skip (LQ.const (.ptr 0 0)) (LQ.skip (LQ.const (.ptr 1 0)) (LQ.seq (Par.q zhs) (LQ.seq (Par.q intP) (LQ.seq (LP.q providerL) (LP.q providerL))))))), ⟨[1, 2, 4, 12, 87], [.pubC 2 96, .pub 12, .nilsl 12 (.ints [])]⟩, [.cells 61 97, .cells 61 97]⟩
def zau0 : EndD ((List Int) × za × za) := ⟨(LQ.skip (LQ.const (.ptr 0 0)) (LQ.skip (LQ.const (.ptr 1 0)) (LQ.seq (Par.q zhs) (LQ.seq (LP.q providerL) (LP.q providerL))))), ⟨[2, 4, 12], [.pubC 2 96, .pub 12, .nilsl 12 (.ints [])]⟩, [.cells 61 97, .cells 61 97]⟩
def zayv : St → Option LR := L1 96 9 0 zbar (.exit 2) zau0 (fun s => zf3 s.1 s.2.1 s.2.2.1 s.2.2.2.1 s.2.2.2.2)
theorem zbas : zv (zy89).env 0 (sub zc89 [0, 1, 0, 1, 1, 1, 1, 1, 1, 1, 1, 1, 1, 1, 1]) zayv :=
  zji (A := zbaq) zh89 Facts.mix trivial (k := zb1 (sub zc89 [0, 1, 0, 1, 1, 1, 1, 1, 1, 1, 1, 1, 1, 1, 1])) (by kernel_rfl) rfl (by rintro ⟨x0, x1, x2, x3, x4⟩; kernel_rfl)
def za89 : Ann := ⟨[([0, 1, 0, 1, 1, 1, 1, 1, 1], zayu), ([0, 1, 0, 1, 1, 1, 1, 1, 1, 1, 1, 1, 1, 1, 1], zayv)], [], [], zv89, [(23, [9700002])]⟩
def zn4 (a0 : za) (a1 : Int) : Tr (za × (List Int) × Int) :=
  (.bind (zbx a0) fun v1 =>
  (.ite (((!v1) || (decide (a1 < a0.Time))) || (decide (a1 > 1099511627776)))
    (.leaf (a0, [], 2))
    (.guard ((zoq a0.Set).isSome = true)
    (.guard ((zqb a0.Meter ((zoq a0.Set).getD default) a1).isSome = true)
    (.bind (zhn a1 a0.Queue ((a0.Queue.length : Nat) : Int) 0 ({ (a0 : za) with Height := IntKind.i64.wrap (a0.Height + 1), Time := a1, Meter := ((zqb a0.Meter ((zoq a0.Set).getD default) a1).getD default) }) (default : za) (⟨false, false⟩ : (A2 Bool)) []) fun v3 =>
    (.bind (zsx v3.2.1.Stake v3.1) fun v4 =>
    (.ite (v4.2.2 != 0)
      (.leaf ({ (v3.2.1 : za) with Queue := v3.2.2.2 }, [], v4.2.2))
      (.bind (zxx v4.1) fun v5 =>
      (.bind (zl8 v3.1 v4.2.1 0 ({ (v3.2.1 : za) with Stake := v4.1, Set := v5, Queue := v3.2.2.2 }) v3.2.2.1) fun v7 =>
      (.leaf (v7.2.1, v7.1, 0)))))))))))
def zdl (a0 : za) (a1 : Int) : Option (za × (List Int) × Int) := (zn4 a0 a1).run
def zr89 : LQ (za × Int) := (LQ.seq (Par.q (Par.ofLP providerL)) (Par.q intP))
def zx9 : LQ (za × (List Int) × Int) := (LQ.seq (Par.q (Par.ofLP providerL)) (LQ.seq (Par.q zhs) (Par.q intP)))
def z0k : SpecT := zx 0 zr89 2 [] (fun s => zn4 s.1 s.2) default zx9 3 []
theorem z7f : zj Tryz.prog 81 (z0k).spec :=
  zf (A := za89) zh89 Facts.mix Tryz.func81 (c := zc89) (by kernel_rfl) (Lc := 0) ⟨zbap, zbas, trivial⟩ zr89 2 9 [] (fun s => zn4 s.1 s.2) default zx9 3 [] [.pubB 4, .pub 5] (by decide) (by kernel_rfl) (by rfl) (by decide) (by decide) (by rfl)
    (by rintro ⟨a0, a1⟩; kernel_rfl)
end
end Go.Proofs.YtmakmlnfbdablaaGreat.Ab
