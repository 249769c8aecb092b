/-
  The functions, each by its tree.
-/
import Derived.Test.YtmakmlnfbdablaaGreatXAbFun
import Derived.Test.YtmakmlnfbdablaaGreatXAbStructs
import Derived.Test.YtmakmlnfbdablaaGreatXFCodec
import Derived.Test.YtmakmlnfbdablaaGreatXFLine
import Derived.Test.YtmakmlnfbdablaaGreatXFStakeB
import Derived.Test.YtmakmlnfbdablaaGreatXFacts
namespace Go.Proofs.YtmakmlnfbdablaaGreat.Ab
open Go Go.RowKit
set_option maxRecDepth 100000
set_option linter.unusedVariables false
set_option linter.unusedSimpArgs false
noncomputable section
noncomputable def zc90 : Code := Tryz.f54.body.getD .skip
def zv90 : List (List Nat) := [[1], [2]]
noncomputable def zy90 : EnvT := ⟨Tryz.prog, zw [(55, zoo)]⟩
theorem zh90 : (zy90).Ok := ze ⟨zqe, trivial⟩
def za90 : Ann := ⟨[], [], [], zv90, []⟩
def zit (a0 : Packet) : Tr (Bool) :=
  (.bind (zgn a0) fun v1 =>
  (.leaf ((v1 != 0) || (a0.Kind != 1))))
def zs2 (a0 : Packet) : Option (Bool) := (zit a0).run
def zr90 : LQ (Packet) := (Par.q (Par.ofLP zmz))
def zs3 : LQ (Bool) := (Par.q boolP)
def zuc : SpecT := zx 0 zr90 1 [] (fun s => zit s) default zs3 1 []
theorem z2z : zj Tryz.prog 54 (zuc).spec :=
  zf (A := za90) zh90 Facts.mix Tryz.func54 (c := zc90) (by kernel_rfl) (Lc := 0) trivial zr90 1 3 [] (fun s => zit s) default zs3 1 [] [] (by decide) (by kernel_rfl) (by rfl) (by decide) (by decide) (by rfl)
    (by rintro a0; kernel_rfl)
noncomputable def zc91 : Code := Tryz.f73.body.getD .skip
def zv91 : List (List Nat) := [[0, 1], [0, 1, 7, 8], [0, 1, 7, 8, 9], [0, 1, 5, 7, 8], [0, 1, 5, 7, 8, 16], [4], [0, 1, 7, 8], [4]]
noncomputable def zy91 : EnvT := ⟨Tryz.prog, zw [(54, zuc)]⟩
theorem zh91 : (zy91).Ok := ze ⟨z2z, trivial⟩
def zao (x0 : (List Packet)) (x1 : Int) (x2 : Int) : Tr (((List Packet) × Int × Int) ⊕ ((Int) ⊕ (Unit))) :=
  (.ite (decide (x2 < x1))
    (.guard ((0 : Int) ≤ x2 ∧ x2 < ((Sl.len (.packets x0) : Nat) : Int))
    (.bind (zs2 (x0.getD x2.toNat default)) fun v1 =>
    (.ite (v1)
      (.leaf (.inr (.inl x2)))
      (.leaf (.inl (x0, x1, IntKind.i64.wrap (x2 + 1)))))))
    (.leaf (.inr (.inr ()))))
def ze2 (x0 : (List Packet)) (x1 : Int) (x2 : Int) : Option ((Int) ⊕ (Unit)) := zd5 (fun s : (List Packet) × Int × Int => (zao s.1 s.2.1 s.2.2).run) (x0, x1, x2)
def za7i : Ann := ⟨[], [], [], zv91, []⟩
def za7j : EndD ((List Packet) × Int × Int) := ⟨(LQ.seq (Par.q zej) (LQ.skip (LQ.const (.fn 54 [])) (LQ.seq (Par.q intP) (Par.q intP)))), ⟨[0, 1, 7, 8], [.pub 0, .nilsl 0 (.packets [])]⟩, []⟩
def zat8 : EndD (Int) := ⟨(Par.q intP), ⟨[4], []⟩, []⟩
def zat9 : EndD (Unit) := ⟨LQ.nil, ⟨[], []⟩, []⟩
def zax6 : St → Option LR := L2 19 2 0 za7j .ret zat8 (.exit 0) zat9 (fun s => zao s.1 s.2.1 s.2.2)
theorem za7k : zv (zy91).env 0 (sub zc91 [0, 1, 0, 1]) zax6 :=
  zlc (A := za7i) zh91 Facts.mix trivial (k := zb1 (sub zc91 [0, 1, 0, 1])) (by kernel_rfl) rfl rfl (by rintro ⟨x0, x1, x2⟩; kernel_rfl)
def za91 : Ann := ⟨[([0, 1, 0, 1], zax6)], [], [], zv91, []⟩
def zaw (a0 : (List Packet)) : Tr (Int) :=
  (.two (ze2 a0 ((a0.length : Nat) : Int) 0) (fun v2 =>
    (.leaf v2)) (fun v3 =>
    (.leaf (-1))))
def zdi (a0 : (List Packet)) : Option (Int) := (zaw a0).run
def zr91 : LQ ((List Packet)) := (LQ.skipR (Par.q zej) (LQ.const (.fn 54 [])))
def zgc : LQ (Int) := (Par.q intP)
def zg2 : SpecT := zx 0 zr91 2 [] (fun s => zaw s) default zgc 1 []
theorem zor : zj Tryz.prog 73 (zg2).spec :=
  zf (A := za91) zh91 Facts.mix Tryz.func73 (c := zc91) (by kernel_rfl) (Lc := 0) ⟨za7k, trivial⟩ zr91 2 2 [] (fun s => zaw s) default zgc 1 [] [] (by decide) (by kernel_rfl) (by rfl) (by decide) (by decide) (by rfl)
    (by rintro a0; kernel_rfl)
noncomputable def zc92 : Code := Tryz.f53.body.getD .skip
def zv92 : List (List Nat) := [[0, 1], [4]]
noncomputable def zy92 : EnvT := ⟨Tryz.prog, zw [(73, zg2)]⟩
theorem zh92 : (zy92).Ok := ze ⟨zor, trivial⟩
def za92 : Ann := ⟨[], [], [], zv92, []⟩
def zbj (a0 : (List Packet)) : Tr (Bool) :=
  (.bind (zdi a0) fun v1 =>
  (.leaf (decide (v1 ≥ 0))))
def zb9 (a0 : (List Packet)) : Option (Bool) := (zbj a0).run
def zr92 : LQ ((List Packet)) := (LQ.skipR (Par.q zej) (LQ.const (.fn 54 [])))
def ze3 : LQ (Bool) := (Par.q boolP)
def zfh : SpecT := zx 0 zr92 2 [] (fun s => zbj s) default ze3 1 []
theorem zlw : zj Tryz.prog 53 (zfh).spec :=
  zf (A := za92) zh92 Facts.mix Tryz.func53 (c := zc92) (by kernel_rfl) (Lc := 0) trivial zr92 2 2 [] (fun s => zbj s) default ze3 1 [] [] (by decide) (by kernel_rfl) (by rfl) (by decide) (by decide) (by rfl)
    (by rintro a0; kernel_rfl)
noncomputable def zc93 : Code := Tryz.f24.body.getD .skip
def zv93 : List (List Nat) := [[1], [1, 48], [2], [1, 50, 51, 52], [1, 50, 51, 52, 53], [1, 3, 4, 50, 51, 52], [1, 50, 51, 52, 90], [2], [1, 50, 51, 52], [1, 93, 94, 95], [1, 93, 94, 95, 96], [1, 6, 93, 94, 95], [1, 93, 94, 95, 111], [2], [1, 93, 94, 95], [2]]
noncomputable def zy93 : EnvT := ⟨Tryz.prog, zw [(52, zm3), (53, zfh)]⟩
theorem zh93 : (zy93).Ok := ze ⟨zon, zlw, trivial⟩
def zhj (x0 : (List Power)) (x1 : Int) (x2 : Int) (x3 : zb) : Tr (((List Power) × Int × Int × zb) ⊕ ((Bool) ⊕ (zb))) :=
  (.ite (decide (x2 < x1))
    (.guard ((0 : Int) ≤ x2 ∧ x2 < ((Sl.len (.powers x0) : Nat) : Int))
    (.guard (((decide (x2 > 0)) = true → (((decide (((x0.getD x2.toNat default).V) < 0)) || (decide (((x0.getD x2.toNat default).V) ≥ 6))) = false → ((0 : Int) ≤ (IntKind.i64.wrap (x2 - 1)) ∧ (IntKind.i64.wrap (x2 - 1)) < ((Sl.len (.powers x3.Set) : Nat) : Int)) ∧ True)))
    (.ite (((((decide (((x0.getD x2.toNat default).V) < 0)) || (decide (((x0.getD x2.toNat default).V) ≥ 6))) || ((decide (x2 > 0)) && (decide (((x3.Set.getD ((IntKind.i64.wrap (x2 - 1)).toNat) default).V) ≥ ((x0.getD x2.toNat default).V))))) || (decide (((x0.getD x2.toNat default).N) < 1))) || (decide (((x0.getD x2.toNat default).N) > 1125899906842624)))
      (.leaf (.inr (.inl false)))
      (.leaf (.inl (x0, x1, IntKind.i64.wrap (x2 + 1), x3))))))
    (.leaf (.inr (.inr x3))))
def zrd (x0 : (List Power)) (x1 : Int) (x2 : Int) (x3 : zb) : Option ((Bool) ⊕ (zb)) := zd5 (fun s : (List Power) × Int × Int × zb => (zhj s.1 s.2.1 s.2.2.1 s.2.2.2).run) (x0, x1, x2, x3)
def za7o : Ann := ⟨[], [], [], zv93, []⟩
def za7p : EndD ((List Power) × Int × Int × zb) := ⟨(LQ.skip (LQ.const (.ptr 0 0)) (LQ.seq (Par.q zt) (LQ.seq (Par.q intP) (LQ.seq (Par.q intP) (LP.q z9))))), ⟨[1, 50, 51, 52], [.pub 50, .nilsl 50 (.powers [])]⟩, [.cells 71 22]⟩
def zaua : EndD (Bool) := ⟨(Par.q boolP), ⟨[2], []⟩, []⟩
def zaub : EndD (zb) := ⟨(LQ.skip (LQ.const (.ptr 0 0)) (LP.q z9)), ⟨[1], []⟩, [.cells 71 22]⟩
def zax8 : St → Option LR := L2 117 4 0 za7p .ret zaua (.exit 0) zaub (fun s => zhj s.1 s.2.1 s.2.2.1 s.2.2.2)
theorem za7q : zv (zy93).env 0 (sub zc93 [0, 1, 0, 1, 1]) zax8 :=
  zlc (A := za7o) zh93 Facts.mix trivial (k := zb1 (sub zc93 [0, 1, 0, 1, 1])) (by kernel_rfl) rfl rfl (by rintro ⟨x0, x1, x2, x3⟩; kernel_rfl)
def zds (x0 : (List Ripe)) (x1 : Int) (x2 : Int) (x3 : zb) : Tr (((List Ripe) × Int × Int × zb) ⊕ ((Bool) ⊕ (zb))) :=
  (.ite (decide (x2 < x1))
    (.guard ((0 : Int) ≤ x2 ∧ x2 < ((Sl.len (.ripes x0) : Nat) : Int))
    (.ite (((decide (((x0.getD x2.toNat default).Id) < 1)) || (decide (((x0.getD x2.toNat default).Id) > 1099511627776))) || (decide (((x0.getD x2.toNat default).Due) < 0)))
      (.leaf (.inr (.inl false)))
      (.leaf (.inl (x0, x1, IntKind.i64.wrap (x2 + 1), x3)))))
    (.leaf (.inr (.inr x3))))
def zkr (x0 : (List Ripe)) (x1 : Int) (x2 : Int) (x3 : zb) : Option ((Bool) ⊕ (zb)) := zd5 (fun s : (List Ripe) × Int × Int × zb => (zds s.1 s.2.1 s.2.2.1 s.2.2.2).run) (x0, x1, x2, x3)
def za7r : Ann := ⟨[], [], [], zv93, []⟩
def za7s : EndD ((List Ripe) × Int × Int × zb) := ⟨(LQ.skip (LQ.const (.ptr 0 0)) (LQ.seq (Par.q zzw) (LQ.seq (Par.q intP) (LQ.seq (Par.q intP) (LP.q z9))))), ⟨[1, 93, 94, 95], [.pub 93, .nilsl 93 (.ripes [])]⟩, [.cells 71 22]⟩
def zauc : EndD (Bool) := ⟨(Par.q boolP), ⟨[2], []⟩, []⟩
def zaud : EndD (zb) := ⟨(LQ.skip (LQ.const (.ptr 0 0)) (LP.q z9)), ⟨[1], []⟩, [.cells 71 22]⟩
def zax9 : St → Option LR := L2 117 4 0 za7s .ret zauc (.exit 2) zaud (fun s => zds s.1 s.2.1 s.2.2.1 s.2.2.2)
theorem za7t : zv (zy93).env 0 (sub zc93 [0, 1, 0, 1, 1, 1]) zax9 :=
  zlc (A := za7r) zh93 Facts.mix trivial (k := zb1 (sub zc93 [0, 1, 0, 1, 1, 1])) (by kernel_rfl) rfl rfl (by rintro ⟨x0, x1, x2, x3⟩; kernel_rfl)
def za93 : Ann := ⟨[([0, 1, 0, 1, 1], zax8), ([0, 1, 0, 1, 1, 1], zax9)], [], [], zv93, []⟩
def zlx (a0 : zb) : Tr (Bool) :=
  (.guard (((((((((a0.On && a0.Gone) || (decide (a0.Height < 0))) || (decide (a0.Height ≥ 1099511627776))) || (decide (a0.Time < 0))) || (decide (a0.Time > 1099511627776))) || (decide (a0.Id < 0))) || (decide (a0.Id > 1099511627776))) = false → ((zez a0.Out).isSome = true) ∧ True))
  (.ite ((((((((a0.On && a0.Gone) || (decide (a0.Height < 0))) || (decide (a0.Height ≥ 1099511627776))) || (decide (a0.Time < 0))) || (decide (a0.Time > 1099511627776))) || (decide (a0.Id < 0))) || (decide (a0.Id > 1099511627776))) || (!((zez a0.Out).getD default)))
    (.leaf false)
    (.two (zrd a0.Set ((a0.Set.length : Nat) : Int) 0 a0) (fun v1 =>
      (.leaf v1)) (fun v2 =>
      (.two (zkr v2.Ripes ((v2.Ripes.length : Nat) : Int) 0 v2) (fun v3 =>
        (.leaf v3)) (fun v4 =>
        (.bind (zb9 v4.Pending) fun v5 =>
        (.leaf (!v5)))))))))
def zew (a0 : zb) : Option (Bool) := (zlx a0).run
def zr93 : LQ (zb) := (Par.q (Par.ofLP z9))
def zwn : LQ (Bool) := (Par.q boolP)
def zia : SpecT := zx 0 zr93 1 [] (fun s => zlx s) default zwn 1 []
theorem zj8 : zj Tryz.prog 24 (zia).spec :=
  zf (A := za93) zh93 Facts.mix Tryz.func24 (c := zc93) (by kernel_rfl) (Lc := 0) ⟨za7q, za7t, trivial⟩ zr93 1 4 [] (fun s => zlx s) default zwn 1 [] [] (by decide) (by kernel_rfl) (by rfl) (by decide) (by decide) (by rfl)
    (by rintro a0; kernel_rfl)
noncomputable def zc94 : Code := Tryz.f83.body.getD .skip
def zv94 : List (List Nat) := [[0, 1, 2, 6], [6]]
noncomputable def zy94 : EnvT := ⟨Tryz.prog, zw [(102, zk4)]⟩
theorem zh94 : (zy94).Ok := ze ⟨zto, trivial⟩
def za94 : Ann := ⟨[], [], [], zv94, []⟩
def zj9 (a0 : (List Power)) (a1 : Int) (a2 : Int) : Tr (zb) :=
  (.bind (zfc a0) fun v1 =>
  (.leaf (⟨true, false, 0, a2, a1, v1, [], [], (⟨false, false, false, false, false, false⟩ : (A6 Bool)), (⟨[], [], 0, false⟩ : zbk), (⟨0, 0, 0, 0⟩ : z9i)⟩ : zb)))
def ziu (a0 : (List Power)) (a1 : Int) (a2 : Int) : Option (zb) := (zj9 a0 a1 a2).run
def zr94 : LQ ((List Power) × Int × Int) := (LQ.seq (Par.q zt) (LQ.seq (Par.q intP) (Par.q intP)))
def zud : LQ (zb) := (Par.q (Par.ofLP z9))
def zwo : SpecT := zx 0 zr94 3 [] (fun s => zj9 s.1 s.2.1 s.2.2) default zud 1 []
theorem z3u : zj Tryz.prog 83 (zwo).spec :=
  zf (A := za94) zh94 Facts.mix Tryz.func83 (c := zc94) (by kernel_rfl) (Lc := 0) trivial zr94 3 4 [] (fun s => zj9 s.1 s.2.1 s.2.2) default zud 1 [] [.pubB 6] (by decide) (by kernel_rfl) (by rfl) (by decide) (by decide) (by rfl)
    (by rintro ⟨a0, a1, a2⟩; kernel_rfl)
noncomputable def zc95 : Code := Tryz.f108.body.getD .skip
def zv95 : List (List Nat) := [[1, 2, 4], [2, 4, 6, 7], [2, 4, 6, 7, 13], [4, 5], [2, 4, 6, 7, 18], [4, 5], [2, 4, 6, 7, 23], [4, 5], [2, 4, 6, 28], [4, 5], [2, 4], [4, 5]]
noncomputable def zy95 : EnvT := ⟨Tryz.prog, zw [(37, ztp), (24, zia), (135, zjr)]⟩
theorem zh95 : (zy95).Ok := ze ⟨zxs, zj8, zrx, trivial⟩
def za95 : Ann := ⟨[], [], [], zv95, []⟩
def zly (a0 : zb) (a1 : ByteArray) : Tr (zb × Int) :=
  (.bind (zfu a1) fun v1 =>
  (.bind (zew a0) fun v2 =>
  (.ite (!v2)
    (.leaf (a0, 2))
    (.ite (!a0.On)
      (.leaf (a0, 4))
      (.ite (v1.2 != 0)
        (.leaf (a0, v1.2))
        (.ite (v1.1.Kind != 1)
          (.leaf (a0, 3))
          (.guard ((zbo a0.Pending).isSome = true)
          (.guard ((Sl.len (.packets ((zbo a0.Pending).getD default)) + Sl.len (.packets [v1.1])) * 80 ≤ 140737488355328)
          (.leaf ({ (a0 : zb) with Pending := ((zbo a0.Pending).getD default) ++ [v1.1] }, 0))))))))))
def zka (a0 : zb) (a1 : ByteArray) : Option (zb × Int) := (zly a0 a1).run
def zr95 : LQ (zb × ByteArray) := (LQ.seq (Par.q (Par.ofLP z9)) (Par.q strP))
def zwp : LQ (zb × Int) := (LQ.seq (Par.q (Par.ofLP z9)) (Par.q intP))
def zxy : SpecT := zx 0 zr95 2 [] (fun s => zly s.1 s.2) default zwp 2 []
theorem z5d : zj Tryz.prog 108 (zxy).spec :=
  zf (A := za95) zh95 Facts.mix Tryz.func108 (c := zc95) (by kernel_rfl) (Lc := 0) trivial zr95 2 8 [] (fun s => zly s.1 s.2) default zwp 2 [] [.pubB 4] (by decide) (by kernel_rfl) (by rfl) (by decide) (by decide) (by rfl)
    (by rintro ⟨a0, a1⟩; kernel_rfl)
noncomputable def zc96 : Code := Tryz.f104.body.getD .skip
def zv96 : List (List Nat) := [[0, 2, 4], [0, 2, 7, 8], [0, 2, 7, 8, 16], [6], [0, 8, 9], [0, 8, 9, 30], [6], [], [6]]
noncomputable def zy96 : EnvT := ⟨Tryz.prog, zw [(28, zjt), (133, z3s)]⟩
theorem zh96 : (zy96).Ok := ze ⟨zlq, z62, trivial⟩
def za96 : Ann := ⟨[], [], [], zv96, []⟩
def zny (a0 : Packet) (a1 : Int) (a2 : zb) : Tr (Int × zb) :=
  (.bind (z5 a0) fun v1 =>
  (.ite (v1.2 != 0)
    (.leaf (v1.2, a2))
    (.bind (zvh a2.Out v1.1 (IntKind.i64.wrap (a1 + 40))) fun v2 =>
    (.ite (v2.2 != 0)
      (.leaf (v2.2, a2))
      (.leaf (0, { (a2 : zb) with Out := v2.1 }))))))
def zbu (a0 : Packet) (a1 : Int) (a2 : zb) : Option (Int × zb) := (zny a0 a1 a2).run
def zr96 : LQ (Packet × Int × zb) := (LQ.skip (LQ.const (.ptr 0 0)) (LQ.seq (Par.q (Par.ofLP zmz)) (LQ.seq (Par.q intP) (LP.q z9))))
def zxz : LQ (Int × zb) := (LQ.seq (Par.q intP) (LP.q z9))
def znz : SpecT := zx 1 zr96 3 [.cells 71 22] (fun s => zny s.1 s.2.1 s.2.2) default zxz 1 [.cells 71 22]
theorem zre : zj Tryz.prog 104 (znz).spec :=
  zf (A := za96) zh96 Facts.mix Tryz.func104 (c := zc96) (by kernel_rfl) (Lc := 1) trivial zr96 3 5 [.cells 71 22] (fun s => zny s.1 s.2.1 s.2.2) default zxz 1 [.cells 71 22] [.pubN 0] (by decide) (by kernel_rfl) (by rfl) (by decide) (by decide) (by rfl)
    (by rintro ⟨a0, a1, a2⟩; kernel_rfl)
noncomputable def zc97 : Code := Tryz.f112.body.getD .skip
def zv97 : List (List Nat) := [[0, 1], [1, 7, 8, 9], [1, 7, 8, 9, 10], [1, 6, 7, 8, 9], [1, 6, 7, 8, 9, 16], [4], [1, 7, 8, 9], [4]]
noncomputable def zy97 : EnvT := ⟨Tryz.prog, zw []⟩
theorem zh97 : (zy97).Ok := ze trivial
def zec (x0 : Int) (x1 : (List Power)) (x2 : Int) (x3 : Int) : Tr ((Int × (List Power) × Int × Int) ⊕ ((Int) ⊕ (Unit))) :=
  (.ite (decide (x3 < x2))
    (.guard ((0 : Int) ≤ x3 ∧ x3 < ((Sl.len (.powers x1) : Nat) : Int))
    (.ite (((x1.getD x3.toNat default).V) == x0)
      (.leaf (.inr (.inl ((x1.getD x3.toNat default).N))))
      (.leaf (.inl (x0, x1, x2, IntKind.i64.wrap (x3 + 1))))))
    (.leaf (.inr (.inr ()))))
def zpg (x0 : Int) (x1 : (List Power)) (x2 : Int) (x3 : Int) : Option ((Int) ⊕ (Unit)) := zd5 (fun s : Int × (List Power) × Int × Int => (zec s.1 s.2.1 s.2.2.1 s.2.2.2).run) (x0, x1, x2, x3)
def za7v : Ann := ⟨[], [], [], zv97, []⟩
def za7w : EndD (Int × (List Power) × Int × Int) := ⟨(LQ.seq (Par.q intP) (LQ.seq (Par.q zt) (LQ.seq (Par.q intP) (Par.q intP)))), ⟨[1, 7, 8, 9], [.pub 7, .nilsl 7 (.powers [])]⟩, []⟩
def zaue : EndD (Int) := ⟨(Par.q intP), ⟨[4], []⟩, []⟩
def zauf : EndD (Unit) := ⟨LQ.nil, ⟨[], []⟩, []⟩
def zaya : St → Option LR := L2 20 3 0 za7w .ret zaue (.exit 0) zauf (fun s => zec s.1 s.2.1 s.2.2.1 s.2.2.2)
theorem za7x : zv (zy97).env 0 (sub zc97 [0, 1, 0, 1]) zaya :=
  zlc (A := za7v) zh97 Facts.mix trivial (k := zb1 (sub zc97 [0, 1, 0, 1])) (by kernel_rfl) rfl rfl (by rintro ⟨x0, x1, x2, x3⟩; kernel_rfl)
def za97 : Ann := ⟨[([0, 1, 0, 1], zaya)], [], [], zv97, []⟩
def zkb (a0 : (List Power)) (a1 : Int) : Tr (Int) :=
  (.two (zpg a1 a0 ((a0.length : Nat) : Int) 0) (fun v1 =>
    (.leaf v1)) (fun v2 =>
    (.leaf 0)))
def zah (a0 : (List Power)) (a1 : Int) : Option (Int) := (zkb a0 a1).run
def zr97 : LQ ((List Power) × Int) := (LQ.seq (Par.q zt) (Par.q intP))
def zue : LQ (Int) := (Par.q intP)
def zo9 : SpecT := zx 0 zr97 2 [] (fun s => zkb s.1 s.2) default zue 1 []
theorem zuf : zj Tryz.prog 112 (zo9).spec :=
  zf (A := za97) zh97 Facts.mix Tryz.func112 (c := zc97) (by kernel_rfl) (Lc := 0) ⟨za7x, trivial⟩ zr97 2 3 [] (fun s => zkb s.1 s.2) default zue 1 [] [] (by decide) (by kernel_rfl) (by rfl) (by decide) (by decide) (by rfl)
    (by rintro ⟨a0, a1⟩; kernel_rfl)
noncomputable def zc98 : Code := Tryz.f84.body.getD .skip
def zv98 : List (List Nat) := [[1, 2, 4], [1, 2, 4, 10], [4, 5], [1, 2, 4, 15], [4, 5], [1, 2, 4, 20], [4, 5], [1, 2, 4], [1, 2, 4], [1, 2, 4, 41, 42, 43], [1, 2, 4, 41, 42, 43, 44], [1, 2, 4, 7, 41, 42, 43], [1, 2, 4, 7, 41, 42, 43], [1, 2, 4, 7, 41, 42, 43], [1, 2, 4, 7, 41, 42, 43, 57, 58, 59], [1, 2, 4, 7, 41, 42, 43, 57, 58, 59, 60], [1, 2, 4, 7, 9, 41, 42, 43, 57, 58, 59], [1, 2, 4, 7, 41, 42, 43, 57, 58, 59], [1, 2, 4, 7, 41, 42, 43, 57, 58, 59], [1, 2, 4, 41, 42, 43], [1, 2, 4, 41, 42, 43], [1, 2, 4], [1, 2, 4, 91], [1, 2, 4, 100], [1, 2, 4], [4, 5]]
noncomputable def zy98 : EnvT := ⟨Tryz.prog, zw [(24, zia), (103, zlk), (36, z2y), (104, znz)]⟩
theorem zh98 : (zy98).Ok := ze ⟨zj8, zt9, z9c, zre, trivial⟩
def zfx (x0 : Int) (x1 : (List Packet)) (x2 : Int) (x3 : Int) (x4 : (List Int)) (x5 : Int) (x6 : Int) (x7 : zb) (x8 : zb) (x9 : Packet) : Tr ((Int × (List Packet) × Int × Int × (List Int) × Int × Int × zb × zb × Packet) ⊕ (Int × (List Packet) × Int × Int × zb × zb × Packet)) :=
  (.ite (decide (x6 < x5))
    (.guard ((0 : Int) ≤ x6 ∧ x6 < ((Sl.len (.ints x4) : Nat) : Int))
    (.guard ((0 : Int) ≤ (x4.getD x6.toNat 0) ∧ ((x4.getD x6.toNat 0) : Int) < 6)
    (.leaf (.inl (x0, x1, x2, x3, x4, x5, IntKind.i64.wrap (x6 + 1), { (x7 : zb) with Flags := (x7.Flags.set (x4.getD x6.toNat 0) false) }, x8, x9)))))
    (.leaf (.inr (x0, x1, x2, x3, x7, x8, x9))))
def zlz (x0 : Int) (x1 : (List Packet)) (x2 : Int) (x3 : Int) (x4 : (List Int)) (x5 : Int) (x6 : Int) (x7 : zb) (x8 : zb) (x9 : Packet) : Option (Int × (List Packet) × Int × Int × zb × zb × Packet) := zd5 (fun s : Int × (List Packet) × Int × Int × (List Int) × Int × Int × zb × zb × Packet => (zfx s.1 s.2.1 s.2.2.1 s.2.2.2.1 s.2.2.2.2.1 s.2.2.2.2.2.1 s.2.2.2.2.2.2.1 s.2.2.2.2.2.2.2.1 s.2.2.2.2.2.2.2.2.1 s.2.2.2.2.2.2.2.2.2).run) (x0, x1, x2, x3, x4, x5, x6, x7, x8, x9)
def za7y : Ann := ⟨[], [], [], zv98, [(23, [800002])]⟩
def za7z : EndD (Int × (List Packet) × Int × Int × (List Int) × Int × Int × zb × zb × Packet) := ⟨(LQ.map (LQ.seq (Par.q intP) (LQ.skip (LQ.const (.ptr 0 0)) (LQ.skip (LQ.const (.ptr 1 0)) (LQ.skip (LQ.const (.ptr 2 0)) (LQ.seq (Par.q zej) (LQ.seq (Par.q intP) (LQ.seq (Par.q intP) (LQ.seq (Par.q zhs) (LQ.seq (Par.q intP) (LQ.seq (Par.q intP) (LQ.seq (Par.q boolP) (LQ.seq (Par.q boolP) (LQ.seq (Par.q intP) (LQ.seq (Par.q intP) (LQ.seq (Par.q intP) (LQ.seq (Par.q zt) (LQ.seq (Par.q zej) (LQ.skip (LQ.const (.own 3)) (LQ.seq (LP.q (a6L (LP.one boolP))) (LQ.seq (LP.q lineL) (LQ.seq (LP.q zaay) (LQ.seq (LP.q z9) (LQ.seq (LP.q zmz) (Par.q zzw)))))))))))))))))))))))) (fun x : Int × (List Packet) × Int × Int × (List Int) × Int × Int × Bool × Bool × Int × Int × Int × (List Power) × (List Packet) × (A6 Bool) × zbk × z9i × zb × Packet × (List Ripe) => ((x.1, x.2.1, x.2.2.1, x.2.2.2.1, x.2.2.2.2.1, x.2.2.2.2.2.1, x.2.2.2.2.2.2.1, (⟨x.2.2.2.2.2.2.2.1, x.2.2.2.2.2.2.2.2.1, x.2.2.2.2.2.2.2.2.2.1, x.2.2.2.2.2.2.2.2.2.2.1, x.2.2.2.2.2.2.2.2.2.2.2.1, x.2.2.2.2.2.2.2.2.2.2.2.2.1, x.2.2.2.2.2.2.2.2.2.2.2.2.2.1, x.2.2.2.2.2.2.2.2.2.2.2.2.2.2.2.2.2.2.2, x.2.2.2.2.2.2.2.2.2.2.2.2.2.2.1, x.2.2.2.2.2.2.2.2.2.2.2.2.2.2.2.1, x.2.2.2.2.2.2.2.2.2.2.2.2.2.2.2.2.1⟩ : zb), x.2.2.2.2.2.2.2.2.2.2.2.2.2.2.2.2.2.1, x.2.2.2.2.2.2.2.2.2.2.2.2.2.2.2.2.2.2.1) : Int × (List Packet) × Int × Int × (List Int) × Int × Int × zb × zb × Packet)) (fun y => (y.1, y.2.1, y.2.2.1, y.2.2.2.1, y.2.2.2.2.1, y.2.2.2.2.2.1, y.2.2.2.2.2.2.1, y.2.2.2.2.2.2.2.1.On, y.2.2.2.2.2.2.2.1.Gone, y.2.2.2.2.2.2.2.1.Height, y.2.2.2.2.2.2.2.1.Time, y.2.2.2.2.2.2.2.1.Id, y.2.2.2.2.2.2.2.1.Set, y.2.2.2.2.2.2.2.1.Pending, y.2.2.2.2.2.2.2.1.Flags, y.2.2.2.2.2.2.2.1.Out, y.2.2.2.2.2.2.2.1.Seen, y.2.2.2.2.2.2.2.2.1, y.2.2.2.2.2.2.2.2.2, y.2.2.2.2.2.2.2.1.Ripes)) (fun _ => rfl)), ⟨[1, 2, 4, 7, 41, 42, 43, 57, 58, 59], [.nilcell 2 7 103 (.ripes []), .pub 41, .nilsl 41 (.packets []), .pub 57, .nilsl 57 (.ints [])]⟩, [.cells 71 22, .cells 71 22, .cells 79 6, .rows 103]⟩
def zauh : EndD (Int × (List Packet) × Int × Int × zb × zb × Packet) := ⟨(LQ.map (LQ.seq (Par.q intP) (LQ.skip (LQ.const (.ptr 0 0)) (LQ.skip (LQ.const (.ptr 1 0)) (LQ.skip (LQ.const (.ptr 2 0)) (LQ.seq (Par.q zej) (LQ.seq (Par.q intP) (LQ.seq (Par.q intP) (LQ.seq (Par.q boolP) (LQ.seq (Par.q boolP) (LQ.seq (Par.q intP) (LQ.seq (Par.q intP) (LQ.seq (Par.q intP) (LQ.seq (Par.q zt) (LQ.seq (Par.q zej) (LQ.skip (LQ.const (.own 3)) (LQ.seq (LP.q (a6L (LP.one boolP))) (LQ.seq (LP.q lineL) (LQ.seq (LP.q zaay) (LQ.seq (LP.q z9) (LQ.seq (LP.q zmz) (Par.q zzw))))))))))))))))))))) (fun x : Int × (List Packet) × Int × Int × Bool × Bool × Int × Int × Int × (List Power) × (List Packet) × (A6 Bool) × zbk × z9i × zb × Packet × (List Ripe) => ((x.1, x.2.1, x.2.2.1, x.2.2.2.1, (⟨x.2.2.2.2.1, x.2.2.2.2.2.1, x.2.2.2.2.2.2.1, x.2.2.2.2.2.2.2.1, x.2.2.2.2.2.2.2.2.1, x.2.2.2.2.2.2.2.2.2.1, x.2.2.2.2.2.2.2.2.2.2.1, x.2.2.2.2.2.2.2.2.2.2.2.2.2.2.2.2, x.2.2.2.2.2.2.2.2.2.2.2.1, x.2.2.2.2.2.2.2.2.2.2.2.2.1, x.2.2.2.2.2.2.2.2.2.2.2.2.2.1⟩ : zb), x.2.2.2.2.2.2.2.2.2.2.2.2.2.2.1, x.2.2.2.2.2.2.2.2.2.2.2.2.2.2.2.1) : Int × (List Packet) × Int × Int × zb × zb × Packet)) (fun y => (y.1, y.2.1, y.2.2.1, y.2.2.2.1, y.2.2.2.2.1.On, y.2.2.2.2.1.Gone, y.2.2.2.2.1.Height, y.2.2.2.2.1.Time, y.2.2.2.2.1.Id, y.2.2.2.2.1.Set, y.2.2.2.2.1.Pending, y.2.2.2.2.1.Flags, y.2.2.2.2.1.Out, y.2.2.2.2.1.Seen, y.2.2.2.2.2.1, y.2.2.2.2.2.2, y.2.2.2.2.1.Ripes)) (fun _ => rfl)), ⟨[1, 2, 4, 7, 41, 42, 43], [.nilcell 2 7 103 (.ripes []), .pub 41, .nilsl 41 (.packets [])]⟩, [.cells 71 22, .cells 71 22, .cells 79 6, .rows 103]⟩
def zayb : St → Option LR := L1 106 8 0 za7z (.exit 3) zauh (fun s => zfx s.1 s.2.1 s.2.2.1 s.2.2.2.1 s.2.2.2.2.1 s.2.2.2.2.2.1 s.2.2.2.2.2.2.1 s.2.2.2.2.2.2.2.1 s.2.2.2.2.2.2.2.2.1 s.2.2.2.2.2.2.2.2.2)
theorem za8b : zv (zy98).env 0 (sub zc98 [0, 1, 0, 1, 1, 1, 0, 0, 1, 1, 0, 0, 1, 0, 1, 1, 1, 1]) zayb :=
  zji (A := za7y) zh98 Facts.mix trivial (k := zb1 (sub zc98 [0, 1, 0, 1, 1, 1, 0, 0, 1, 1, 0, 0, 1, 0, 1, 1, 1, 1])) (by kernel_rfl) rfl (by rintro ⟨x0, x1, x2, x3, x4, x5, x6, x7, x8, x9⟩; kernel_rfl)
def zfy (x0 : Int) (x1 : (List Packet)) (x2 : Int) (x3 : Int) (x4 : zb) (x5 : zb) : Tr ((Int × (List Packet) × Int × Int × zb × zb) ⊕ (Int × zb × zb)) :=
  (.ite (decide (x3 < x2))
    (.guard ((0 : Int) ≤ x3 ∧ x3 < ((Sl.len (.packets x1) : Nat) : Int))
    (.bind (ztq x4.Set ((x1.getD x3.toNat default).Set)) fun v3 =>
    (.bind (zlz x0 x1 x2 x3 ((x1.getD x3.toNat default).Done) ((((x1.getD x3.toNat default).Done).length : Nat) : Int) 0 ({ (x4 : zb) with Id := (x1.getD x3.toNat default).Id, Set := v3 }) x5 (x1.getD x3.toNat default)) fun v4 =>
    (.guard ((Sl.len (.ripes v4.2.2.2.2.1.Ripes) + Sl.len (.ripes [(⟨v4.2.2.2.2.2.2.Id, IntKind.i64.wrap (v4.1 + 15)⟩ : Ripe)])) * 16 ≤ 140737488355328)
    (.leaf (.inl (v4.1, v4.2.1, v4.2.2.1, IntKind.i64.wrap (v4.2.2.2.1 + 1), { (v4.2.2.2.2.1 : zb) with Ripes := v4.2.2.2.2.1.Ripes ++ [(⟨v4.2.2.2.2.2.2.Id, IntKind.i64.wrap (v4.1 + 15)⟩ : Ripe)] }, v4.2.2.2.2.2.1)))))))
    (.leaf (.inr (x0, x4, x5))))
def zl0 (x0 : Int) (x1 : (List Packet)) (x2 : Int) (x3 : Int) (x4 : zb) (x5 : zb) : Option (Int × zb × zb) := zd5 (fun s : Int × (List Packet) × Int × Int × zb × zb => (zfy s.1 s.2.1 s.2.2.1 s.2.2.2.1 s.2.2.2.2.1 s.2.2.2.2.2).run) (x0, x1, x2, x3, x4, x5)
def za8c : Ann := ⟨[([0, 1, 0, 1, 1, 1, 0, 0, 1, 1, 0, 0, 1, 0, 1, 1, 1, 1], zayb)], [], [], zv98, [(23, [800002])]⟩
def za8d : EndD (Int × (List Packet) × Int × Int × zb × zb) := ⟨(LQ.map (LQ.seq (Par.q intP) (LQ.skip (LQ.const (.ptr 0 0)) (LQ.skip (LQ.const (.ptr 1 0)) (LQ.seq (Par.q zej) (LQ.seq (Par.q intP) (LQ.seq (Par.q intP) (LQ.seq (Par.q boolP) (LQ.seq (Par.q boolP) (LQ.seq (Par.q intP) (LQ.seq (Par.q intP) (LQ.seq (Par.q intP) (LQ.seq (Par.q zt) (LQ.seq (Par.q zej) (LQ.skip (LQ.const (.own 2)) (LQ.seq (LP.q (a6L (LP.one boolP))) (LQ.seq (LP.q lineL) (LQ.seq (LP.q zaay) (LQ.seq (LP.q z9) (Par.q zzw))))))))))))))))))) (fun x : Int × (List Packet) × Int × Int × Bool × Bool × Int × Int × Int × (List Power) × (List Packet) × (A6 Bool) × zbk × z9i × zb × (List Ripe) => ((x.1, x.2.1, x.2.2.1, x.2.2.2.1, (⟨x.2.2.2.2.1, x.2.2.2.2.2.1, x.2.2.2.2.2.2.1, x.2.2.2.2.2.2.2.1, x.2.2.2.2.2.2.2.2.1, x.2.2.2.2.2.2.2.2.2.1, x.2.2.2.2.2.2.2.2.2.2.1, x.2.2.2.2.2.2.2.2.2.2.2.2.2.2.2, x.2.2.2.2.2.2.2.2.2.2.2.1, x.2.2.2.2.2.2.2.2.2.2.2.2.1, x.2.2.2.2.2.2.2.2.2.2.2.2.2.1⟩ : zb), x.2.2.2.2.2.2.2.2.2.2.2.2.2.2.1) : Int × (List Packet) × Int × Int × zb × zb)) (fun y => (y.1, y.2.1, y.2.2.1, y.2.2.2.1, y.2.2.2.2.1.On, y.2.2.2.2.1.Gone, y.2.2.2.2.1.Height, y.2.2.2.2.1.Time, y.2.2.2.2.1.Id, y.2.2.2.2.1.Set, y.2.2.2.2.1.Pending, y.2.2.2.2.1.Flags, y.2.2.2.2.1.Out, y.2.2.2.2.1.Seen, y.2.2.2.2.2, y.2.2.2.2.1.Ripes)) (fun _ => rfl)), ⟨[1, 2, 4, 41, 42, 43], [.nilcell 2 7 103 (.ripes []), .pub 41, .nilsl 41 (.packets [])]⟩, [.cells 71 22, .cells 71 22, .rows 103]⟩
def zaui : EndD (Int × zb × zb) := ⟨(LQ.map (LQ.seq (Par.q intP) (LQ.skip (LQ.const (.ptr 0 0)) (LQ.skip (LQ.const (.ptr 1 0)) (LQ.seq (Par.q boolP) (LQ.seq (Par.q boolP) (LQ.seq (Par.q intP) (LQ.seq (Par.q intP) (LQ.seq (Par.q intP) (LQ.seq (Par.q zt) (LQ.seq (Par.q zej) (LQ.skip (LQ.const (.own 2)) (LQ.seq (LP.q (a6L (LP.one boolP))) (LQ.seq (LP.q lineL) (LQ.seq (LP.q zaay) (LQ.seq (LP.q z9) (Par.q zzw)))))))))))))))) (fun x : Int × Bool × Bool × Int × Int × Int × (List Power) × (List Packet) × (A6 Bool) × zbk × z9i × zb × (List Ripe) => ((x.1, (⟨x.2.1, x.2.2.1, x.2.2.2.1, x.2.2.2.2.1, x.2.2.2.2.2.1, x.2.2.2.2.2.2.1, x.2.2.2.2.2.2.2.1, x.2.2.2.2.2.2.2.2.2.2.2.2, x.2.2.2.2.2.2.2.2.1, x.2.2.2.2.2.2.2.2.2.1, x.2.2.2.2.2.2.2.2.2.2.1⟩ : zb), x.2.2.2.2.2.2.2.2.2.2.2.1) : Int × zb × zb)) (fun y => (y.1, y.2.1.On, y.2.1.Gone, y.2.1.Height, y.2.1.Time, y.2.1.Id, y.2.1.Set, y.2.1.Pending, y.2.1.Flags, y.2.1.Out, y.2.1.Seen, y.2.2, y.2.1.Ripes)) (fun _ => rfl)), ⟨[1, 2, 4], [.nilcell 2 7 103 (.ripes [])]⟩, [.cells 71 22, .cells 71 22, .rows 103]⟩
def zayc : St → Option LR := L1 106 8 0 za8d (.exit 1) zaui (fun s => zfy s.1 s.2.1 s.2.2.1 s.2.2.2.1 s.2.2.2.2.1 s.2.2.2.2.2)
theorem za8e : zv (zy98).env 0 (sub zc98 [0, 1, 0, 1, 1, 1, 1]) zayc :=
  zji (A := za8c) zh98 Facts.mix ⟨za8b, trivial⟩ (k := zb1 (sub zc98 [0, 1, 0, 1, 1, 1, 1])) (by kernel_rfl) rfl (by rintro ⟨x0, x1, x2, x3, x4, x5⟩; kernel_rfl)
def zd8 (x0 : Int) (x1 : zb) (x2 : zb) : Tr ((Int × zb × zb) ⊕ (zb × zb)) :=
  (.guard (((decide (((x1.Ripes.length : Nat) : Int) > 0)) = true → ((0 : Int) ≤ 0 ∧ 0 < ((Sl.len (.ripes x1.Ripes) : Nat) : Int)) ∧ True))
  (.ite ((decide (((x1.Ripes.length : Nat) : Int) > 0)) && (decide (((x1.Ripes.getD 0 default).Due) ≤ x0)))
    (.guard ((0 : Int) ≤ 0 ∧ 0 < ((Sl.len (.ripes x1.Ripes) : Nat) : Int))
    (.bind (zbu (⟨2, (x1.Ripes.getD 0 default).Id, 0, 0, [], []⟩ : Packet) x0 x1) fun v6 =>
    (.ite (v6.1 != 0)
      (.leaf (.inr (v6.2, x2)))
      (.guard ((0 : Int) ≤ 1 ∧ 1 ≤ (((Sl.len (.ripes v6.2.Ripes) : Nat) : Int) : Int) ∧ ((Sl.len (.ripes v6.2.Ripes) : Nat) : Int) ≤ ((Sl.len (.ripes v6.2.Ripes) : Nat) : Int))
      (.leaf (.inl (x0, { (v6.2 : zb) with Ripes := ((v6.2.Ripes.drop 1).take ((((Sl.len (.ripes v6.2.Ripes) : Nat) : Int)).toNat - 1)) }, x2)))))))
    (.leaf (.inr (x1, x2)))))
def zca (x0 : Int) (x1 : zb) (x2 : zb) : Option (zb × zb) := zd5 (fun s : Int × zb × zb => (zd8 s.1 s.2.1 s.2.2).run) (x0, x1, x2)
def za8f : Ann := ⟨[], [], [], zv98, [(23, [800002])]⟩
def za8g : EndD (Int × zb × zb) := ⟨(LQ.seq (Par.q intP) (LQ.skip (LQ.const (.ptr 0 0)) (LQ.skip (LQ.const (.ptr 1 0)) (LQ.seq (LP.q z9) (LP.q z9))))), ⟨[1, 2, 4], [.pubC 2 6, .pubC 2 7]⟩, [.cells 71 22, .cells 71 22]⟩
def zauj : EndD (zb × zb) := ⟨(LQ.skip (LQ.const (.ptr 0 0)) (LQ.skip (LQ.const (.ptr 1 0)) (LQ.seq (LP.q z9) (LP.q z9)))), ⟨[2, 4], [.pubC 2 6, .pubC 2 7]⟩, [.cells 71 22, .cells 71 22]⟩
def zayd : St → Option LR := L1 106 8 0 za8g (.exit 5) zauj (fun s => zd8 s.1 s.2.1 s.2.2)
theorem za8h : zv (zy98).env 0 (sub zc98 [0, 0, 1, 1, 1, 1, 1, 1]) zayd :=
  zji (A := za8f) zh98 Facts.mix trivial (k := zb1 (sub zc98 [0, 0, 1, 1, 1, 1, 1, 1])) (by kernel_rfl) rfl (by rintro ⟨x0, x1, x2⟩; kernel_rfl)
def za98 : Ann := ⟨[([0, 1, 0, 1, 1, 1, 1], zayc), ([0, 0, 1, 1, 1, 1, 1, 1], zayd)], [], [], zv98, [(23, [800002])]⟩
def zn0 (a0 : zb) (a1 : Int) : Tr (zb × Int) :=
  (.bind (zew a0) fun v1 =>
  (.ite (!v1)
    (.leaf (a0, 2))
    (.ite (!a0.On)
      (.leaf (a0, 4))
      (.ite ((decide (a1 < a0.Time)) || (decide (a1 > 1099511627776)))
        (.leaf (a0, 2))
        (.bind (zfp a0.Ripes) fun v2 =>
        (.bind (zl0 a1 a0.Pending ((a0.Pending.length : Nat) : Int) 0 ({ (a0 : zb) with Height := IntKind.i64.wrap (a0.Height + 1), Time := a1, Ripes := v2 }) (default : zb)) fun v5 =>
        (.bind (zca v5.1 ({ (v5.2.1 : zb) with Pending := [] }) v5.2.2) fun v7 =>
        (.leaf (v7.1, 0)))))))))
def zaa (a0 : zb) (a1 : Int) : Option (zb × Int) := (zn0 a0 a1).run
def zr98 : LQ (zb × Int) := (LQ.seq (Par.q (Par.ofLP z9)) (Par.q intP))
def zx0 : LQ (zb × Int) := (LQ.seq (Par.q (Par.ofLP z9)) (Par.q intP))
def z0g : SpecT := zx 0 zr98 2 [] (fun s => zn0 s.1 s.2) default zx0 2 []
theorem z7b : zj Tryz.prog 84 (z0g).spec :=
  zf (A := za98) zh98 Facts.mix Tryz.func84 (c := zc98) (by kernel_rfl) (Lc := 0) ⟨za8e, za8h, trivial⟩ zr98 2 8 [] (fun s => zn0 s.1 s.2) default zx0 2 [] [.pubB 4] (by decide) (by kernel_rfl) (by rfl) (by decide) (by decide) (by rfl)
    (by rintro ⟨a0, a1⟩; kernel_rfl)
noncomputable def zc99 : Code := Tryz.f87.body.getD .skip
def zv99 : List (List Nat) := [[1, 2, 3, 6], [1, 2, 3, 6, 9], [6, 7], [1, 2, 3, 6, 22], [6, 7], [1, 2, 3, 6, 42], [6, 7], [1, 3, 6, 8], [1, 3, 6, 8, 59], [6, 7], [3, 6], [6, 7]]
noncomputable def zy99 : EnvT := ⟨Tryz.prog, zw [(24, zia), (112, zo9), (104, znz)]⟩
theorem zh99 : (zy99).Ok := ze ⟨zj8, zuf, zre, trivial⟩
def za99 : Ann := ⟨[], [], [], zv99, []⟩
def zl1 (a0 : zb) (a1 : Int) (a2 : Int) : Tr (zb × Int) :=
  (.bind (zew a0) fun v1 =>
  (.ite (((!v1) || (decide (a2 < 0))) || (decide (a2 > 1099511627776)))
    (.leaf (a0, 2))
    (.guard (((((!a0.On) || (decide (a1 < 0))) || (decide (a1 ≥ 6))) = false → ((zah a0.Set a1).isSome = true) ∧ True))
    (.ite ((((!a0.On) || (decide (a1 < 0))) || (decide (a1 ≥ 6))) || (((zah a0.Set a1).getD default) == 0))
      (.leaf (a0, 4))
      (.guard ((0 : Int) ≤ a1 ∧ (a1 : Int) < 6)
      (.ite (a0.Flags.get a1)
        (.leaf (a0, 5))
        (.guard ((zah a0.Set a1).isSome = true)
        (.guard ((zbu (⟨3, a0.Id, a1, ((zah a0.Set a1).getD default), [], []⟩ : Packet) a2 a0).isSome = true)
        (.ite ((((zbu (⟨3, a0.Id, a1, ((zah a0.Set a1).getD default), [], []⟩ : Packet) a2 a0).getD default).1) != 0)
          (.leaf ((((zbu (⟨3, a0.Id, a1, ((zah a0.Set a1).getD default), [], []⟩ : Packet) a2 a0).getD default).2), ((zbu (⟨3, a0.Id, a1, ((zah a0.Set a1).getD default), [], []⟩ : Packet) a2 a0).getD default).1))
          (.guard ((0 : Int) ≤ a1 ∧ (a1 : Int) < 6)
          (.leaf ({ ((((zbu (⟨3, a0.Id, a1, ((zah a0.Set a1).getD default), [], []⟩ : Packet) a2 a0).getD default).2) : zb) with Flags := (((((zbu (⟨3, a0.Id, a1, ((zah a0.Set a1).getD default), [], []⟩ : Packet) a2 a0).getD default).2).Flags).set a1 true) }, 0))))))))))))
def zex (a0 : zb) (a1 : Int) (a2 : Int) : Option (zb × Int) := (zl1 a0 a1 a2).run
def zr99 : LQ (zb × Int × Int) := (LQ.seq (Par.q (Par.ofLP z9)) (LQ.seq (Par.q intP) (Par.q intP)))
def zwq : LQ (zb × Int) := (LQ.seq (Par.q (Par.ofLP z9)) (Par.q intP))
def zx1 : SpecT := zx 0 zr99 3 [] (fun s => zl1 s.1 s.2.1 s.2.2) default zwq 2 []
theorem z5e : zj Tryz.prog 87 (zx1).spec :=
  zf (A := za99) zh99 Facts.mix Tryz.func87 (c := zc99) (by kernel_rfl) (Lc := 0) trivial zr99 3 4 [] (fun s => zl1 s.1 s.2.1 s.2.2) default zwq 2 [] [.pubB 6] (by decide) (by kernel_rfl) (by rfl) (by decide) (by decide) (by rfl)
    (by rintro ⟨a0, a1, a2⟩; kernel_rfl)
noncomputable def za8i : Code := Tryz.f88.body.getD .skip
def za8j : List (List Nat) := [[1, 2, 3, 4, 8], [1, 2, 3, 4, 8, 11], [8, 9], [1, 2, 3, 4, 8, 24], [8, 9], [1, 2, 3, 4, 8, 37], [8, 9], [4, 8, 10], [4, 8, 10, 58], [8, 9], [8, 9]]
noncomputable def za8k : EnvT := ⟨Tryz.prog, zw [(24, zia), (112, zo9), (104, znz)]⟩
theorem za8l : (za8k).Ok := ze ⟨zj8, zuf, zre, trivial⟩
def za8m : Ann := ⟨[], [], [], za8j, []⟩
def ziv (a0 : zb) (a1 : Int) (a2 : Int) (a3 : Int) : Tr (zb × Int) :=
  (.bind (zew a0) fun v1 =>
  (.ite (((!v1) || (decide (a3 < 0))) || (decide (a3 > 1099511627776)))
    (.leaf (a0, 2))
    (.ite (((!a0.On) || (decide (a1 < 0))) || (decide (a1 ≥ 6)))
      (.leaf (a0, 4))
      (.ite ((decide (a2 < 1)) || (decide (a2 > a0.Id)))
        (.leaf (a0, 2))
        (.bind (zah a0.Set a1) fun v2 =>
        (.bind (zbu (⟨4, a2, a1, if v2 > 1 then v2 else 1, [], []⟩ : Packet) a3 a0) fun v3 =>
        (.ite (v3.1 != 0)
          (.leaf (v3.2, v3.1))
          (.leaf (v3.2, 0)))))))))
def zdt (a0 : zb) (a1 : Int) (a2 : Int) (a3 : Int) : Option (zb × Int) := (ziv a0 a1 a2 a3).run
def zaye : LQ (zb × Int × Int × Int) := (LQ.seq (Par.q (Par.ofLP z9)) (LQ.seq (Par.q intP) (LQ.seq (Par.q intP) (Par.q intP))))
def zs4 : LQ (zb × Int) := (LQ.seq (Par.q (Par.ofLP z9)) (Par.q intP))
def zug : SpecT := zx 0 zaye 4 [] (fun s => ziv s.1 s.2.1 s.2.2.1 s.2.2.2) default zs4 2 []
theorem z20 : zj Tryz.prog 88 (zug).spec :=
  zf (A := za8m) za8l Facts.mix Tryz.func88 (c := za8i) (by kernel_rfl) (Lc := 0) trivial zaye 4 4 [] (fun s => ziv s.1 s.2.1 s.2.2.1 s.2.2.2) default zs4 2 [] [.pubB 8] (by decide) (by kernel_rfl) (by rfl) (by decide) (by decide) (by rfl)
    (by rintro ⟨a0, a1, a2, a3⟩; kernel_rfl)
noncomputable def za8n : Code := Tryz.f111.body.getD .skip
def za8o : List (List Nat) := [[1, 2], [1, 2, 5], [2], [1, 2], [2]]
noncomputable def za8p : EnvT := ⟨Tryz.prog, zw []⟩
theorem za8q : (za8p).Ok := ze trivial
def za8r : Ann := ⟨[], [], [], za8o, []⟩
def ziw (a0 : zb) : Tr (zb) :=
  (.ite (!a0.On)
    (.leaf a0)
    (.leaf ({ (a0 : zb) with On := false, Gone := true, Out := { (a0.Out : zbk) with Closed := true } })))
def zhk (a0 : zb) : Option (zb) := (ziw a0).run
def zayf : LQ (zb) := (Par.q (Par.ofLP z9))
def zs5 : LQ (zb) := (Par.q (Par.ofLP z9))
def zuh : SpecT := zx 0 zayf 1 [] (fun s => ziw s) default zs5 1 []
theorem z21 : zj Tryz.prog 111 (zuh).spec :=
  zf (A := za8r) za8q Facts.mix Tryz.func111 (c := za8n) (by kernel_rfl) (Lc := 0) trivial zayf 1 4 [] (fun s => ziw s) default zs5 1 [] [.pubB 2] (by decide) (by kernel_rfl) (by rfl) (by decide) (by decide) (by rfl)
    (by rintro a0; kernel_rfl)
end
end Go.Proofs.YtmakmlnfbdablaaGreat.Ab
