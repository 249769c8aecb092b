/-
  The functions, each by its tree.
-/
import Derived.Test.YtmakmlnfbdablaaGreatXAbFun
import Derived.Test.YtmakmlnfbdablaaGreatXAbStructs
import Derived.Test.YtmakmlnfbdablaaGreatXFCodec
import Derived.Test.YtmakmlnfbdablaaGreatXFLine
import Derived.Test.YtmakmlnfbdablaaGreatXFStakeB
import Derived.Test.YtmakmlnfbdablaaGreatXFacts
namespace Go.Proofs.YtmakmlnfbdablaaGreat.Ab
open Go Go.RowKit
set_option maxRecDepth 100000
set_option linter.unusedVariables false
set_option linter.unusedSimpArgs false
noncomputable section
noncomputable def zc90 : Code := Tryz.f54.body.getD .skip
def zv90 : List (List Nat) := [[1], [2]]
noncomputable def zy90 : EnvT := ⟨Tryz.prog, zq [(55, zms)]⟩
theorem zh90 : (zy90).Ok := zc ⟨zog, trivial⟩
def za90 : Ann := ⟨[], [], [], zv90, []⟩
def zhn (a0 : Packet) : Tr (Bool) :=
  (.bind (zfs a0) fun v1 =>
  (.leaf ((v1 != 0) || (a0.Kind != 1))))
def zqt (a0 : Packet) : Option (Bool) := (zhn a0).run
def zr90 : LQ (Packet) := (Par.q (Par.ofLP zlb))
def zqu : LQ (Bool) := (Par.q boolP)
def zrz : SpecT := zt 0 zr90 1 [] (fun s => zhn s) default zqu 1 []
theorem z0j : zg Tryz.prog 54 (zrz).spec :=
  zd (A := za90) zh90 Facts.mix Tryz.func54 (c := zc90) (by kernel_rfl) (Lc := 0) trivial zr90 1 3 [] (fun s => zhn s) default zqu 1 [] [] (by decide) (by kernel_rfl) (by rfl) (by decide) (by decide) (by rfl)
    (by rintro a0; kernel_rfl)
noncomputable def zc91 : Code := Tryz.f73.body.getD .skip
def zv91 : List (List Nat) := [[0, 1], [0, 1, 7, 8], [0, 1, 7, 8, 9], [0, 1, 5, 7, 8], [0, 1, 5, 7, 8, 16], [4], [0, 1, 7, 8], [4]]
noncomputable def zy91 : EnvT := ⟨Tryz.prog, zq [(54, zrz)]⟩
theorem zh91 : (zy91).Ok := zc ⟨z0j, trivial⟩
def zae (x0 : (List Packet)) (x1 : Int) (x2 : Int) : Tr (((List Packet) × Int × Int) ⊕ ((Int) ⊕ (Unit))) :=
  (.ite (decide (x2 < x1))
    (.guard ((0 : Int) ≤ x2 ∧ x2 < ((Sl.len (.packets x0) : Nat) : Int))
    (.bind (zqt (x0.getD x2.toNat default)) fun v1 =>
    (.ite (v1)
      (.leaf (.inr (.inl x2)))
      (.leaf (.inl (x0, x1, IntKind.i64.wrap (x2 + 1)))))))
    (.leaf (.inr (.inr ()))))
def zee (x0 : (List Packet)) (x1 : Int) (x2 : Int) : Option ((Int) ⊕ (Unit)) := zel (fun s : (List Packet) × Int × Int => (zae s.1 s.2.1 s.2.2).run) (x0, x1, x2)
def zazw : Ann := ⟨[], [], [], zv91, []⟩
def zazx : EndD ((List Packet) × Int × Int) := ⟨(LQ.seq (Par.q zdy) (LQ.skip (LQ.const (.fn 54 [])) (LQ.seq (Par.q intP) (Par.q intP)))), ⟨[0, 1, 7, 8], [.pub 0, .nilsl 0 (.packets [])]⟩, []⟩
def zapz : EndD (Int) := ⟨(Par.q intP), ⟨[4], []⟩, []⟩
def zap0 : EndD (Unit) := ⟨LQ.nil, ⟨[], []⟩, []⟩
def zatn : St → Option LR := L2 19 2 0 zazx .ret zapz (.exit 0) zap0 (fun s => zae s.1 s.2.1 s.2.2)
theorem zazy : zu (zy91).env 0 (sub zc91 [0, 1, 0, 1]) zatn :=
  zra (A := zazw) zh91 Facts.mix trivial (k := zcw (sub zc91 [0, 1, 0, 1])) (by kernel_rfl) rfl rfl (by rintro ⟨x0, x1, x2⟩; kernel_rfl)
def za91 : Ann := ⟨[([0, 1, 0, 1], zatn)], [], [], zv91, []⟩
def zal (a0 : (List Packet)) : Tr (Int) :=
  (.two (zee a0 ((a0.length : Nat) : Int) 0) (fun v2 =>
    (.leaf v2)) (fun v3 =>
    (.leaf (-1))))
def zcs (a0 : (List Packet)) : Option (Int) := (zal a0).run
def zr91 : LQ ((List Packet)) := (LQ.skipR (Par.q zdy) (LQ.const (.fn 54 [])))
def zfh : LQ (Int) := (Par.q intP)
def zf7 : SpecT := zt 0 zr91 2 [] (fun s => zal s) default zfh 1 []
theorem zmw : zg Tryz.prog 73 (zf7).spec :=
  zd (A := za91) zh91 Facts.mix Tryz.func73 (c := zc91) (by kernel_rfl) (Lc := 0) ⟨zazy, trivial⟩ zr91 2 2 [] (fun s => zal s) default zfh 1 [] [] (by decide) (by kernel_rfl) (by rfl) (by decide) (by decide) (by rfl)
    (by rintro a0; kernel_rfl)
noncomputable def zc92 : Code := Tryz.f53.body.getD .skip
def zv92 : List (List Nat) := [[0, 1], [4]]
noncomputable def zy92 : EnvT := ⟨Tryz.prog, zq [(73, zf7)]⟩
theorem zh92 : (zy92).Ok := zc ⟨zmw, trivial⟩
def za92 : Ann := ⟨[], [], [], zv92, []⟩
def zax (a0 : (List Packet)) : Tr (Bool) :=
  (.bind (zcs a0) fun v1 =>
  (.leaf (decide (v1 ≥ 0))))
def zby (a0 : (List Packet)) : Option (Bool) := (zax a0).run
def zr92 : LQ ((List Packet)) := (LQ.skipR (Par.q zdy) (LQ.const (.fn 54 [])))
def zef : LQ (Bool) := (Par.q boolP)
def zet : SpecT := zt 0 zr92 2 [] (fun s => zax s) default zef 1 []
theorem zkc : zg Tryz.prog 53 (zet).spec :=
  zd (A := za92) zh92 Facts.mix Tryz.func53 (c := zc92) (by kernel_rfl) (Lc := 0) trivial zr92 2 2 [] (fun s => zax s) default zef 1 [] [] (by decide) (by kernel_rfl) (by rfl) (by decide) (by decide) (by rfl)
    (by rintro a0; kernel_rfl)
noncomputable def zc93 : Code := Tryz.f24.body.getD .skip
def zv93 : List (List Nat) := [[1], [1, 48], [2], [1, 50, 51, 52], [1, 50, 51, 52, 53], [1, 3, 4, 50, 51, 52], [1, 50, 51, 52, 90], [2], [1, 50, 51, 52], [1, 93, 94, 95], [1, 93, 94, 95, 96], [1, 6, 93, 94, 95], [1, 93, 94, 95, 111], [2], [1, 93, 94, 95], [2]]
noncomputable def zy93 : EnvT := ⟨Tryz.prog, zq [(52, zlf), (53, zet)]⟩
theorem zh93 : (zy93).Ok := zc ⟨zmr, zkc, trivial⟩
def zgr (x0 : (List Power)) (x1 : Int) (x2 : Int) (x3 : zb) : Tr (((List Power) × Int × Int × zb) ⊕ ((Bool) ⊕ (zb))) :=
  (.ite (decide (x2 < x1))
    (.guard ((0 : Int) ≤ x2 ∧ x2 < ((Sl.len (.powers x0) : Nat) : Int))
    (.guard (((decide (x2 > 0)) = true → (((decide (((x0.getD x2.toNat default).V) < 0)) || (decide (((x0.getD x2.toNat default).V) ≥ 6))) = false → ((0 : Int) ≤ (IntKind.i64.wrap (x2 - 1)) ∧ (IntKind.i64.wrap (x2 - 1)) < ((Sl.len (.powers x3.Set) : Nat) : Int)) ∧ True)))
    (.ite (((((decide (((x0.getD x2.toNat default).V) < 0)) || (decide (((x0.getD x2.toNat default).V) ≥ 6))) || ((decide (x2 > 0)) && (decide (((x3.Set.getD ((IntKind.i64.wrap (x2 - 1)).toNat) default).V) ≥ ((x0.getD x2.toNat default).V))))) || (decide (((x0.getD x2.toNat default).N) < 1))) || (decide (((x0.getD x2.toNat default).N) > 1125899906842624)))
      (.leaf (.inr (.inl false)))
      (.leaf (.inl (x0, x1, IntKind.i64.wrap (x2 + 1), x3))))))
    (.leaf (.inr (.inr x3))))
def zpg (x0 : (List Power)) (x1 : Int) (x2 : Int) (x3 : zb) : Option ((Bool) ⊕ (zb)) := zel (fun s : (List Power) × Int × Int × zb => (zgr s.1 s.2.1 s.2.2.1 s.2.2.2).run) (x0, x1, x2, x3)
def zaz2 : Ann := ⟨[], [], [], zv93, []⟩
def zaz3 : EndD ((List Power) × Int × Int × zb) := ⟨(LQ.skip (LQ.const (.ptr 0 0)) (LQ.seq (Par.q zo) (LQ.seq (Par.q intP) (LQ.seq (Par.q intP) (LP.q z7))))), ⟨[1, 50, 51, 52], [.pub 50, .nilsl 50 (.powers [])]⟩, [.cells 71 22]⟩
def zap1 : EndD (Bool) := ⟨(Par.q boolP), ⟨[2], []⟩, []⟩
def zap2 : EndD (zb) := ⟨(LQ.skip (LQ.const (.ptr 0 0)) (LP.q z7)), ⟨[1], []⟩, [.cells 71 22]⟩
def zatp : St → Option LR := L2 117 4 0 zaz3 .ret zap1 (.exit 0) zap2 (fun s => zgr s.1 s.2.1 s.2.2.1 s.2.2.2)
theorem zaz4 : zu (zy93).env 0 (sub zc93 [0, 1, 0, 1, 1]) zatp :=
  zra (A := zaz2) zh93 Facts.mix trivial (k := zcw (sub zc93 [0, 1, 0, 1, 1])) (by kernel_rfl) rfl rfl (by rintro ⟨x0, x1, x2, x3⟩; kernel_rfl)
def zda (x0 : (List Ripe)) (x1 : Int) (x2 : Int) (x3 : zb) : Tr (((List Ripe) × Int × Int × zb) ⊕ ((Bool) ⊕ (zb))) :=
  (.ite (decide (x2 < x1))
    (.guard ((0 : Int) ≤ x2 ∧ x2 < ((Sl.len (.ripes x0) : Nat) : Int))
    (.ite (((decide (((x0.getD x2.toNat default).Id) < 1)) || (decide (((x0.getD x2.toNat default).Id) > 1099511627776))) || (decide (((x0.getD x2.toNat default).Due) < 0)))
      (.leaf (.inr (.inl false)))
      (.leaf (.inl (x0, x1, IntKind.i64.wrap (x2 + 1), x3)))))
    (.leaf (.inr (.inr x3))))
def zji (x0 : (List Ripe)) (x1 : Int) (x2 : Int) (x3 : zb) : Option ((Bool) ⊕ (zb)) := zel (fun s : (List Ripe) × Int × Int × zb => (zda s.1 s.2.1 s.2.2.1 s.2.2.2).run) (x0, x1, x2, x3)
def zaz5 : Ann := ⟨[], [], [], zv93, []⟩
def zaz6 : EndD ((List Ripe) × Int × Int × zb) := ⟨(LQ.skip (LQ.const (.ptr 0 0)) (LQ.seq (Par.q zxb) (LQ.seq (Par.q intP) (LQ.seq (Par.q intP) (LP.q z7))))), ⟨[1, 93, 94, 95], [.pub 93, .nilsl 93 (.ripes [])]⟩, [.cells 71 22]⟩
def zap3 : EndD (Bool) := ⟨(Par.q boolP), ⟨[2], []⟩, []⟩
def zap4 : EndD (zb) := ⟨(LQ.skip (LQ.const (.ptr 0 0)) (LP.q z7)), ⟨[1], []⟩, [.cells 71 22]⟩
def zatq : St → Option LR := L2 117 4 0 zaz6 .ret zap3 (.exit 2) zap4 (fun s => zda s.1 s.2.1 s.2.2.1 s.2.2.2)
theorem zaz7 : zu (zy93).env 0 (sub zc93 [0, 1, 0, 1, 1, 1]) zatq :=
  zra (A := zaz5) zh93 Facts.mix trivial (k := zcw (sub zc93 [0, 1, 0, 1, 1, 1])) (by kernel_rfl) rfl rfl (by rintro ⟨x0, x1, x2, x3⟩; kernel_rfl)
def za93 : Ann := ⟨[([0, 1, 0, 1, 1], zatp), ([0, 1, 0, 1, 1, 1], zatq)], [], [], zv93, []⟩
def zkd (a0 : zb) : Tr (Bool) :=
  (.guard (((((((((a0.On && a0.Gone) || (decide (a0.Height < 0))) || (decide (a0.Height ≥ 1099511627776))) || (decide (a0.Time < 0))) || (decide (a0.Time > 1099511627776))) || (decide (a0.Id < 0))) || (decide (a0.Id > 1099511627776))) = false → ((zeb a0.Out).isSome = true) ∧ True))
  (.ite ((((((((a0.On && a0.Gone) || (decide (a0.Height < 0))) || (decide (a0.Height ≥ 1099511627776))) || (decide (a0.Time < 0))) || (decide (a0.Time > 1099511627776))) || (decide (a0.Id < 0))) || (decide (a0.Id > 1099511627776))) || (!((zeb a0.Out).getD default)))
    (.leaf false)
    (.two (zpg a0.Set ((a0.Set.length : Nat) : Int) 0 a0) (fun v1 =>
      (.leaf v1)) (fun v2 =>
      (.two (zji v2.Ripes ((v2.Ripes.length : Nat) : Int) 0 v2) (fun v3 =>
        (.leaf v3)) (fun v4 =>
        (.bind (zby v4.Pending) fun v5 =>
        (.leaf (!v5)))))))))
def zam (a0 : zb) : Option (Bool) := (zkd a0).run
def zr93 : LQ (zb) := (Par.q (Par.ofLP z7))
def zt0 : LQ (Bool) := (Par.q boolP)
def ze7 : SpecT := zt 0 zr93 1 [] (fun s => zkd s) default zt0 1 []
theorem zf8 : zg Tryz.prog 24 (ze7).spec :=
  zd (A := za93) zh93 Facts.mix Tryz.func24 (c := zc93) (by kernel_rfl) (Lc := 0) ⟨zaz4, zaz7, trivial⟩ zr93 1 4 [] (fun s => zkd s) default zt0 1 [] [] (by decide) (by kernel_rfl) (by rfl) (by decide) (by decide) (by rfl)
    (by rintro a0; kernel_rfl)
noncomputable def zc94 : Code := Tryz.f83.body.getD .skip
def zv94 : List (List Nat) := [[0, 1, 2, 6], [6]]
noncomputable def zy94 : EnvT := ⟨Tryz.prog, zq [(102, zjs)]⟩
theorem zh94 : (zy94).Ok := zc ⟨zrh, trivial⟩
def za94 : Ann := ⟨[], [], [], zv94, []⟩
def zi3 (a0 : (List Power)) (a1 : Int) (a2 : Int) : Tr (zb) :=
  (.bind (zeo a0) fun v1 =>
  (.leaf (⟨true, false, 0, a2, a1, v1, [], [], (⟨false, false, false, false, false, false⟩ : (A6 Bool)), (⟨[], [], 0, false⟩ : zes), (⟨0, 0, 0, 0⟩ : z72)⟩ : zb)))
def zho (a0 : (List Power)) (a1 : Int) (a2 : Int) : Option (zb) := (zi3 a0 a1 a2).run
def zr94 : LQ ((List Power) × Int × Int) := (LQ.seq (Par.q zo) (LQ.seq (Par.q intP) (Par.q intP)))
def zsa : LQ (zb) := (Par.q (Par.ofLP z7))
def zt1 : SpecT := zt 0 zr94 3 [] (fun s => zi3 s.1 s.2.1 s.2.2) default zsa 1 []
theorem z1e : zg Tryz.prog 83 (zt1).spec :=
  zd (A := za94) zh94 Facts.mix Tryz.func83 (c := zc94) (by kernel_rfl) (Lc := 0) trivial zr94 3 4 [] (fun s => zi3 s.1 s.2.1 s.2.2) default zsa 1 [] [.pubB 6] (by decide) (by kernel_rfl) (by rfl) (by decide) (by decide) (by rfl)
    (by rintro ⟨a0, a1, a2⟩; kernel_rfl)
noncomputable def zc95 : Code := Tryz.f108.body.getD .skip
def zv95 : List (List Nat) := [[1, 2, 4], [2, 4, 6, 7], [2, 4, 6, 7, 13], [4, 5], [2, 4, 6, 7, 18], [4, 5], [2, 4, 6, 7, 23], [4, 5], [2, 4, 6, 28], [4, 5], [2, 4], [4, 5]]
noncomputable def zy95 : EnvT := ⟨Tryz.prog, zq [(37, zri), (24, ze7), (135, zio)]⟩
theorem zh95 : (zy95).Ok := zc ⟨zu7, zf8, zpz, trivial⟩
def za95 : Ann := ⟨[], [], [], zv95, []⟩
def zke (a0 : zb) (a1 : ByteArray) : Tr (zb × Int) :=
  (.bind (ze4 a1) fun v1 =>
  (.bind (zam a0) fun v2 =>
  (.ite (!v2)
    (.leaf (a0, 2))
    (.ite (!a0.On)
      (.leaf (a0, 4))
      (.ite (v1.2 != 0)
        (.leaf (a0, v1.2))
        (.ite (v1.1.Kind != 1)
          (.leaf (a0, 3))
          (.guard ((zbf a0.Pending).isSome = true)
          (.guard ((Sl.len (.packets ((zbf a0.Pending).getD default)) + Sl.len (.packets [v1.1])) * 80 ≤ 140737488355328)
          (.leaf ({ (a0 : zb) with Pending := ((zbf a0.Pending).getD default) ++ [v1.1] }, 0))))))))))
def zi4 (a0 : zb) (a1 : ByteArray) : Option (zb × Int) := (zke a0 a1).run
def zr95 : LQ (zb × ByteArray) := (LQ.seq (Par.q (Par.ofLP z7)) (Par.q strP))
def zt2 : LQ (zb × Int) := (LQ.seq (Par.q (Par.ofLP z7)) (Par.q intP))
def zvd : SpecT := zt 0 zr95 2 [] (fun s => zke s.1 s.2) default zt2 2 []
theorem z2o : zg Tryz.prog 108 (zvd).spec :=
  zd (A := za95) zh95 Facts.mix Tryz.func108 (c := zc95) (by kernel_rfl) (Lc := 0) trivial zr95 2 8 [] (fun s => zke s.1 s.2) default zt2 2 [] [.pubB 4] (by decide) (by kernel_rfl) (by rfl) (by decide) (by decide) (by rfl)
    (by rintro ⟨a0, a1⟩; kernel_rfl)
noncomputable def zc96 : Code := Tryz.f104.body.getD .skip
def zv96 : List (List Nat) := [[0, 2, 4], [0, 2, 7, 8], [0, 2, 7, 8, 16], [6], [0, 8, 9], [0, 8, 9, 30], [6], [], [6]]
noncomputable def zy96 : EnvT := ⟨Tryz.prog, zq [(28, zl3), (133, z1c)]⟩
theorem zh96 : (zy96).Ok := zc ⟨zo9, z4e, trivial⟩
def za96 : Ann := ⟨[], [], [], zv96, []⟩
def zl6 (a0 : Packet) (a1 : Int) (a2 : zb) : Tr (Int × zb) :=
  (.bind (zbi a0) fun v1 =>
  (.ite (v1.2 != 0)
    (.leaf (v1.2, a2))
    (.bind (ztc a2.Out v1.1 (IntKind.i64.wrap (a1 + 40))) fun v2 =>
    (.ite (v2.2 != 0)
      (.leaf (v2.2, a2))
      (.leaf (0, { (a2 : zb) with Out := v2.1 }))))))
def zbj (a0 : Packet) (a1 : Int) (a2 : zb) : Option (Int × zb) := (zl6 a0 a1 a2).run
def zr96 : LQ (Packet × Int × zb) := (LQ.skip (LQ.const (.ptr 0 0)) (LQ.seq (Par.q (Par.ofLP zlb)) (LQ.seq (Par.q intP) (LP.q z7))))
def zve : LQ (Int × zb) := (LQ.seq (Par.q intP) (LP.q z7))
def zl7 : SpecT := zt 1 zr96 3 [.cells 71 22] (fun s => zl6 s.1 s.2.1 s.2.2) default zve 1 [.cells 71 22]
theorem zph : zg Tryz.prog 104 (zl7).spec :=
  zd (A := za96) zh96 Facts.mix Tryz.func104 (c := zc96) (by kernel_rfl) (Lc := 1) trivial zr96 3 5 [.cells 71 22] (fun s => zl6 s.1 s.2.1 s.2.2) default zve 1 [.cells 71 22] [.pubN 0] (by decide) (by kernel_rfl) (by rfl) (by decide) (by decide) (by rfl)
    (by rintro ⟨a0, a1, a2⟩; kernel_rfl)
noncomputable def zc97 : Code := Tryz.f112.body.getD .skip
def zv97 : List (List Nat) := [[0, 1], [1, 7, 8, 9], [1, 7, 8, 9, 10], [1, 6, 7, 8, 9], [1, 6, 7, 8, 9, 16], [4], [1, 7, 8, 9], [4]]
noncomputable def zy97 : EnvT := ⟨Tryz.prog, zq []⟩
theorem zh97 : (zy97).Ok := zc trivial
def zdt (x0 : Int) (x1 : (List Power)) (x2 : Int) (x3 : Int) : Tr ((Int × (List Power) × Int × Int) ⊕ ((Int) ⊕ (Unit))) :=
  (.ite (decide (x3 < x2))
    (.guard ((0 : Int) ≤ x3 ∧ x3 < ((Sl.len (.powers x1) : Nat) : Int))
    (.ite (((x1.getD x3.toNat default).V) == x0)
      (.leaf (.inr (.inl ((x1.getD x3.toNat default).N))))
      (.leaf (.inl (x0, x1, x2, IntKind.i64.wrap (x3 + 1))))))
    (.leaf (.inr (.inr ()))))
def znl (x0 : Int) (x1 : (List Power)) (x2 : Int) (x3 : Int) : Option ((Int) ⊕ (Unit)) := zel (fun s : Int × (List Power) × Int × Int => (zdt s.1 s.2.1 s.2.2.1 s.2.2.2).run) (x0, x1, x2, x3)
def zaz9 : Ann := ⟨[], [], [], zv97, []⟩
def za0a : EndD (Int × (List Power) × Int × Int) := ⟨(LQ.seq (Par.q intP) (LQ.seq (Par.q zo) (LQ.seq (Par.q intP) (Par.q intP)))), ⟨[1, 7, 8, 9], [.pub 7, .nilsl 7 (.powers [])]⟩, []⟩
def zap5 : EndD (Int) := ⟨(Par.q intP), ⟨[4], []⟩, []⟩
def zap6 : EndD (Unit) := ⟨LQ.nil, ⟨[], []⟩, []⟩
def zatr : St → Option LR := L2 20 3 0 za0a .ret zap5 (.exit 0) zap6 (fun s => zdt s.1 s.2.1 s.2.2.1 s.2.2.2)
theorem za0b : zu (zy97).env 0 (sub zc97 [0, 1, 0, 1]) zatr :=
  zra (A := zaz9) zh97 Facts.mix trivial (k := zcw (sub zc97 [0, 1, 0, 1])) (by kernel_rfl) rfl rfl (by rintro ⟨x0, x1, x2, x3⟩; kernel_rfl)
def za97 : Ann := ⟨[([0, 1, 0, 1], zatr)], [], [], zv97, []⟩
def zi5 (a0 : (List Power)) (a1 : Int) : Tr (Int) :=
  (.two (znl a1 a0 ((a0.length : Nat) : Int) 0) (fun v1 =>
    (.leaf v1)) (fun v2 =>
    (.leaf 0)))
def z9 (a0 : (List Power)) (a1 : Int) : Option (Int) := (zi5 a0 a1).run
def zr97 : LQ ((List Power) × Int) := (LQ.seq (Par.q zo) (Par.q intP))
def zsb : LQ (Int) := (Par.q intP)
def zng : SpecT := zt 0 zr97 2 [] (fun s => zi5 s.1 s.2) default zsb 1 []
theorem zsc : zg Tryz.prog 112 (zng).spec :=
  zd (A := za97) zh97 Facts.mix Tryz.func112 (c := zc97) (by kernel_rfl) (Lc := 0) ⟨za0b, trivial⟩ zr97 2 3 [] (fun s => zi5 s.1 s.2) default zsb 1 [] [] (by decide) (by kernel_rfl) (by rfl) (by decide) (by decide) (by rfl)
    (by rintro ⟨a0, a1⟩; kernel_rfl)
noncomputable def zc98 : Code := Tryz.f84.body.getD .skip
def zv98 : List (List Nat) := [[1, 2, 4], [1, 2, 4, 10], [4, 5], [1, 2, 4, 15], [4, 5], [1, 2, 4, 20], [4, 5], [1, 2, 4], [1, 2, 4], [1, 2, 4, 41, 42, 43], [1, 2, 4, 41, 42, 43, 44], [1, 2, 4, 7, 41, 42, 43], [1, 2, 4, 7, 41, 42, 43], [1, 2, 4, 7, 41, 42, 43], [1, 2, 4, 7, 41, 42, 43, 57, 58, 59], [1, 2, 4, 7, 41, 42, 43, 57, 58, 59, 60], [1, 2, 4, 7, 9, 41, 42, 43, 57, 58, 59], [1, 2, 4, 7, 41, 42, 43, 57, 58, 59], [1, 2, 4, 7, 41, 42, 43, 57, 58, 59], [1, 2, 4, 41, 42, 43], [1, 2, 4, 41, 42, 43], [1, 2, 4], [1, 2, 4, 91], [1, 2, 4, 100], [1, 2, 4], [4, 5]]
noncomputable def zy98 : EnvT := ⟨Tryz.prog, zq [(24, ze7), (103, zj3), (36, z0i), (104, zl7)]⟩
theorem zh98 : (zy98).Ok := zc ⟨zf8, zrx, z6k, zph, trivial⟩
def ze8 (x0 : Int) (x1 : (List Packet)) (x2 : Int) (x3 : Int) (x4 : (List Int)) (x5 : Int) (x6 : Int) (x7 : zb) (x8 : zb) (x9 : Packet) : Tr ((Int × (List Packet) × Int × Int × (List Int) × Int × Int × zb × zb × Packet) ⊕ (Int × (List Packet) × Int × Int × zb × zb × Packet)) :=
  (.ite (decide (x6 < x5))
    (.guard ((0 : Int) ≤ x6 ∧ x6 < ((Sl.len (.ints x4) : Nat) : Int))
    (.guard ((0 : Int) ≤ (x4.getD x6.toNat 0) ∧ ((x4.getD x6.toNat 0) : Int) < 6)
    (.leaf (.inl (x0, x1, x2, x3, x4, x5, IntKind.i64.wrap (x6 + 1), { (x7 : zb) with Flags := (x7.Flags.set (x4.getD x6.toNat 0) false) }, x8, x9)))))
    (.leaf (.inr (x0, x1, x2, x3, x7, x8, x9))))
def zkf (x0 : Int) (x1 : (List Packet)) (x2 : Int) (x3 : Int) (x4 : (List Int)) (x5 : Int) (x6 : Int) (x7 : zb) (x8 : zb) (x9 : Packet) : Option (Int × (List Packet) × Int × Int × zb × zb × Packet) := zel (fun s : Int × (List Packet) × Int × Int × (List Int) × Int × Int × zb × zb × Packet => (ze8 s.1 s.2.1 s.2.2.1 s.2.2.2.1 s.2.2.2.2.1 s.2.2.2.2.2.1 s.2.2.2.2.2.2.1 s.2.2.2.2.2.2.2.1 s.2.2.2.2.2.2.2.2.1 s.2.2.2.2.2.2.2.2.2).run) (x0, x1, x2, x3, x4, x5, x6, x7, x8, x9)
def za0c : Ann := ⟨[], [], [], zv98, [(23, [800002])]⟩
def za0d : EndD (Int × (List Packet) × Int × Int × (List Int) × Int × Int × zb × zb × Packet) := ⟨(LQ.map (LQ.seq (Par.q intP) (LQ.skip (LQ.const (.ptr 0 0)) (LQ.skip (LQ.const (.ptr 1 0)) (LQ.skip (LQ.const (.ptr 2 0)) (LQ.seq (Par.q zdy) (LQ.seq (Par.q intP) (LQ.seq (Par.q intP) (LQ.seq (Par.q zgz) (LQ.seq (Par.q intP) (LQ.seq (Par.q intP) (LQ.seq (Par.q boolP) (LQ.seq (Par.q boolP) (LQ.seq (Par.q intP) (LQ.seq (Par.q intP) (LQ.seq (Par.q intP) (LQ.seq (Par.q zo) (LQ.seq (Par.q zdy) (LQ.skip (LQ.const (.own 3)) (LQ.seq (LP.q (a6L (LP.one boolP))) (LQ.seq (LP.q lineL) (LQ.seq (LP.q z73) (LQ.seq (LP.q z7) (LQ.seq (LP.q zlb) (Par.q zxb)))))))))))))))))))))))) (fun x : Int × (List Packet) × Int × Int × (List Int) × Int × Int × Bool × Bool × Int × Int × Int × (List Power) × (List Packet) × (A6 Bool) × zes × z72 × zb × Packet × (List Ripe) => ((x.1, x.2.1, x.2.2.1, x.2.2.2.1, x.2.2.2.2.1, x.2.2.2.2.2.1, x.2.2.2.2.2.2.1, (⟨x.2.2.2.2.2.2.2.1, x.2.2.2.2.2.2.2.2.1, x.2.2.2.2.2.2.2.2.2.1, x.2.2.2.2.2.2.2.2.2.2.1, x.2.2.2.2.2.2.2.2.2.2.2.1, x.2.2.2.2.2.2.2.2.2.2.2.2.1, x.2.2.2.2.2.2.2.2.2.2.2.2.2.1, x.2.2.2.2.2.2.2.2.2.2.2.2.2.2.2.2.2.2.2, x.2.2.2.2.2.2.2.2.2.2.2.2.2.2.1, x.2.2.2.2.2.2.2.2.2.2.2.2.2.2.2.1, x.2.2.2.2.2.2.2.2.2.2.2.2.2.2.2.2.1⟩ : zb), x.2.2.2.2.2.2.2.2.2.2.2.2.2.2.2.2.2.1, x.2.2.2.2.2.2.2.2.2.2.2.2.2.2.2.2.2.2.1) : Int × (List Packet) × Int × Int × (List Int) × Int × Int × zb × zb × Packet)) (fun y => (y.1, y.2.1, y.2.2.1, y.2.2.2.1, y.2.2.2.2.1, y.2.2.2.2.2.1, y.2.2.2.2.2.2.1, y.2.2.2.2.2.2.2.1.On, y.2.2.2.2.2.2.2.1.Gone, y.2.2.2.2.2.2.2.1.Height, y.2.2.2.2.2.2.2.1.Time, y.2.2.2.2.2.2.2.1.Id, y.2.2.2.2.2.2.2.1.Set, y.2.2.2.2.2.2.2.1.Pending, y.2.2.2.2.2.2.2.1.Flags, y.2.2.2.2.2.2.2.1.Out, y.2.2.2.2.2.2.2.1.Seen, y.2.2.2.2.2.2.2.2.1, y.2.2.2.2.2.2.2.2.2, y.2.2.2.2.2.2.2.1.Ripes)) (fun _ => rfl)), ⟨[1, 2, 4, 7, 41, 42, 43, 57, 58, 59], [.nilcell 2 7 103 (.ripes []), .pub 41, .nilsl 41 (.packets []), .pub 57, .nilsl 57 (.ints [])]⟩, [.cells 71 22, .cells 71 22, .cells 79 6, .rows 103]⟩
def zap8 : EndD (Int × (List Packet) × Int × Int × zb × zb × Packet) := ⟨(LQ.map (LQ.seq (Par.q intP) (LQ.skip (LQ.const (.ptr 0 0)) (LQ.skip (LQ.const (.ptr 1 0)) (LQ.skip (LQ.const (.ptr 2 0)) (LQ.seq (Par.q zdy) (LQ.seq (Par.q intP) (LQ.seq (Par.q intP) (LQ.seq (Par.q boolP) (LQ.seq (Par.q boolP) (LQ.seq (Par.q intP) (LQ.seq (Par.q intP) (LQ.seq (Par.q intP) (LQ.seq (Par.q zo) (LQ.seq (Par.q zdy) (LQ.skip (LQ.const (.own 3)) (LQ.seq (LP.q (a6L (LP.one boolP))) (LQ.seq (LP.q lineL) (LQ.seq (LP.q z73) (LQ.seq (LP.q z7) (LQ.seq (LP.q zlb) (Par.q zxb))))))))))))))))))))) (fun x : Int × (List Packet) × Int × Int × Bool × Bool × Int × Int × Int × (List Power) × (List Packet) × (A6 Bool) × zes × z72 × zb × Packet × (List Ripe) => ((x.1, x.2.1, x.2.2.1, x.2.2.2.1, (⟨x.2.2.2.2.1, x.2.2.2.2.2.1, x.2.2.2.2.2.2.1, x.2.2.2.2.2.2.2.1, x.2.2.2.2.2.2.2.2.1, x.2.2.2.2.2.2.2.2.2.1, x.2.2.2.2.2.2.2.2.2.2.1, x.2.2.2.2.2.2.2.2.2.2.2.2.2.2.2.2, x.2.2.2.2.2.2.2.2.2.2.2.1, x.2.2.2.2.2.2.2.2.2.2.2.2.1, x.2.2.2.2.2.2.2.2.2.2.2.2.2.1⟩ : zb), x.2.2.2.2.2.2.2.2.2.2.2.2.2.2.1, x.2.2.2.2.2.2.2.2.2.2.2.2.2.2.2.1) : Int × (List Packet) × Int × Int × zb × zb × Packet)) (fun y => (y.1, y.2.1, y.2.2.1, y.2.2.2.1, y.2.2.2.2.1.On, y.2.2.2.2.1.Gone, y.2.2.2.2.1.Height, y.2.2.2.2.1.Time, y.2.2.2.2.1.Id, y.2.2.2.2.1.Set, y.2.2.2.2.1.Pending, y.2.2.2.2.1.Flags, y.2.2.2.2.1.Out, y.2.2.2.2.1.Seen, y.2.2.2.2.2.1, y.2.2.2.2.2.2, y.2.2.2.2.1.Ripes)) (fun _ => rfl)), ⟨[1, 2, 4, 7, 41, 42, 43], [.nilcell 2 7 103 (.ripes []), .pub 41, .nilsl 41 (.packets [])]⟩, [.cells 71 22, .cells 71 22, .cells 79 6, .rows 103]⟩
def zats : St → Option LR := L1 106 8 0 za0d (.exit 3) zap8 (fun s => ze8 s.1 s.2.1 s.2.2.1 s.2.2.2.1 s.2.2.2.2.1 s.2.2.2.2.2.1 s.2.2.2.2.2.2.1 s.2.2.2.2.2.2.2.1 s.2.2.2.2.2.2.2.2.1 s.2.2.2.2.2.2.2.2.2)
theorem za0e : zu (zy98).env 0 (sub zc98 [0, 1, 0, 1, 1, 1, 0, 0, 1, 1, 0, 0, 1, 0, 1, 1, 1, 1]) zats :=
  zjd (A := za0c) zh98 Facts.mix trivial (k := zcw (sub zc98 [0, 1, 0, 1, 1, 1, 0, 0, 1, 1, 0, 0, 1, 0, 1, 1, 1, 1])) (by kernel_rfl) rfl (by rintro ⟨x0, x1, x2, x3, x4, x5, x6, x7, x8, x9⟩; kernel_rfl)
def ze9 (x0 : Int) (x1 : (List Packet)) (x2 : Int) (x3 : Int) (x4 : zb) (x5 : zb) : Tr ((Int × (List Packet) × Int × Int × zb × zb) ⊕ (Int × zb × zb)) :=
  (.ite (decide (x3 < x2))
    (.guard ((0 : Int) ≤ x3 ∧ x3 < ((Sl.len (.packets x1) : Nat) : Int))
    (.bind (zrj x4.Set ((x1.getD x3.toNat default).Set)) fun v3 =>
    (.bind (zkf x0 x1 x2 x3 ((x1.getD x3.toNat default).Done) ((((x1.getD x3.toNat default).Done).length : Nat) : Int) 0 ({ (x4 : zb) with Id := (x1.getD x3.toNat default).Id, Set := v3 }) x5 (x1.getD x3.toNat default)) fun v4 =>
    (.guard ((Sl.len (.ripes v4.2.2.2.2.1.Ripes) + Sl.len (.ripes [(⟨v4.2.2.2.2.2.2.Id, IntKind.i64.wrap (v4.1 + 15)⟩ : Ripe)])) * 16 ≤ 140737488355328)
    (.leaf (.inl (v4.1, v4.2.1, v4.2.2.1, IntKind.i64.wrap (v4.2.2.2.1 + 1), { (v4.2.2.2.2.1 : zb) with Ripes := v4.2.2.2.2.1.Ripes ++ [(⟨v4.2.2.2.2.2.2.Id, IntKind.i64.wrap (v4.1 + 15)⟩ : Ripe)] }, v4.2.2.2.2.2.1)))))))
    (.leaf (.inr (x0, x4, x5))))
def zkg (x0 : Int) (x1 : (List Packet)) (x2 : Int) (x3 : Int) (x4 : zb) (x5 : zb) : Option (Int × zb × zb) := zel (fun s : Int × (List Packet) × Int × Int × zb × zb => (ze9 s.1 s.2.1 s.2.2.1 s.2.2.2.1 s.2.2.2.2.1 s.2.2.2.2.2).run) (x0, x1, x2, x3, x4, x5)
def za0f : Ann := ⟨[([0, 1, 0, 1, 1, 1, 0, 0, 1, 1, 0, 0, 1, 0, 1, 1, 1, 1], zats)], [], [], zv98, [(23, [800002])]⟩
def za0g : EndD (Int × (List Packet) × Int × Int × zb × zb) := ⟨(LQ.map (LQ.seq (Par.q intP) (LQ.skip (LQ.const (.ptr 0 0)) (LQ.skip (LQ.const (.ptr 1 0)) (LQ.seq (Par.q zdy) (LQ.seq (Par.q intP) (LQ.seq (Par.q intP) (LQ.seq (Par.q boolP) (LQ.seq (Par.q boolP) (LQ.seq (Par.q intP) (LQ.seq (Par.q intP) (LQ.seq (Par.q intP) (LQ.seq (Par.q zo) (LQ.seq (Par.q zdy) (LQ.skip (LQ.const (.own 2)) (LQ.seq (LP.q (a6L (LP.one boolP))) (LQ.seq (LP.q lineL) (LQ.seq (LP.q z73) (LQ.seq (LP.q z7) (Par.q zxb))))))))))))))))))) (fun x : Int × (List Packet) × Int × Int × Bool × Bool × Int × Int × Int × (List Power) × (List Packet) × (A6 Bool) × zes × z72 × zb × (List Ripe) => ((x.1, x.2.1, x.2.2.1, x.2.2.2.1, (⟨x.2.2.2.2.1, x.2.2.2.2.2.1, x.2.2.2.2.2.2.1, x.2.2.2.2.2.2.2.1, x.2.2.2.2.2.2.2.2.1, x.2.2.2.2.2.2.2.2.2.1, x.2.2.2.2.2.2.2.2.2.2.1, x.2.2.2.2.2.2.2.2.2.2.2.2.2.2.2, x.2.2.2.2.2.2.2.2.2.2.2.1, x.2.2.2.2.2.2.2.2.2.2.2.2.1, x.2.2.2.2.2.2.2.2.2.2.2.2.2.1⟩ : zb), x.2.2.2.2.2.2.2.2.2.2.2.2.2.2.1) : Int × (List Packet) × Int × Int × zb × zb)) (fun y => (y.1, y.2.1, y.2.2.1, y.2.2.2.1, y.2.2.2.2.1.On, y.2.2.2.2.1.Gone, y.2.2.2.2.1.Height, y.2.2.2.2.1.Time, y.2.2.2.2.1.Id, y.2.2.2.2.1.Set, y.2.2.2.2.1.Pending, y.2.2.2.2.1.Flags, y.2.2.2.2.1.Out, y.2.2.2.2.1.Seen, y.2.2.2.2.2, y.2.2.2.2.1.Ripes)) (fun _ => rfl)), ⟨[1, 2, 4, 41, 42, 43], [.nilcell 2 7 103 (.ripes []), .pub 41, .nilsl 41 (.packets [])]⟩, [.cells 71 22, .cells 71 22, .rows 103]⟩
def zap9 : EndD (Int × zb × zb) := ⟨(LQ.map (LQ.seq (Par.q intP) (LQ.skip (LQ.const (.ptr 0 0)) (LQ.skip (LQ.const (.ptr 1 0)) (LQ.seq (Par.q boolP) (LQ.seq (Par.q boolP) (LQ.seq (Par.q intP) (LQ.seq (Par.q intP) (LQ.seq (Par.q intP) (LQ.seq (Par.q zo) (LQ.seq (Par.q zdy) (LQ.skip (LQ.const (.own 2)) (LQ.seq (LP.q (a6L (LP.one boolP))) (LQ.seq (LP.q lineL) (LQ.seq (LP.q z73) (LQ.seq (LP.q z7) (Par.q zxb)))))))))))))))) (fun x : Int × Bool × Bool × Int × Int × Int × (List Power) × (List Packet) × (A6 Bool) × zes × z72 × zb × (List Ripe) => ((x.1, (⟨x.2.1, x.2.2.1, x.2.2.2.1, x.2.2.2.2.1, x.2.2.2.2.2.1, x.2.2.2.2.2.2.1, x.2.2.2.2.2.2.2.1, x.2.2.2.2.2.2.2.2.2.2.2.2, x.2.2.2.2.2.2.2.2.1, x.2.2.2.2.2.2.2.2.2.1, x.2.2.2.2.2.2.2.2.2.2.1⟩ : zb), x.2.2.2.2.2.2.2.2.2.2.2.1) : Int × zb × zb)) (fun y => (y.1, y.2.1.On, y.2.1.Gone, y.2.1.Height, y.2.1.Time, y.2.1.Id, y.2.1.Set, y.2.1.Pending, y.2.1.Flags, y.2.1.Out, y.2.1.Seen, y.2.2, y.2.1.Ripes)) (fun _ => rfl)), ⟨[1, 2, 4], [.nilcell 2 7 103 (.ripes [])]⟩, [.cells 71 22, .cells 71 22, .rows 103]⟩
def zatt : St → Option LR := L1 106 8 0 za0g (.exit 1) zap9 (fun s => ze9 s.1 s.2.1 s.2.2.1 s.2.2.2.1 s.2.2.2.2.1 s.2.2.2.2.2)
theorem za0h : zu (zy98).env 0 (sub zc98 [0, 1, 0, 1, 1, 1, 1]) zatt :=
  zjd (A := za0f) zh98 Facts.mix ⟨za0e, trivial⟩ (k := zcw (sub zc98 [0, 1, 0, 1, 1, 1, 1])) (by kernel_rfl) rfl (by rintro ⟨x0, x1, x2, x3, x4, x5⟩; kernel_rfl)
def zdq (x0 : Int) (x1 : zb) (x2 : zb) : Tr ((Int × zb × zb) ⊕ (zb × zb)) :=
  (.guard (((decide (((x1.Ripes.length : Nat) : Int) > 0)) = true → ((0 : Int) ≤ 0 ∧ 0 < ((Sl.len (.ripes x1.Ripes) : Nat) : Int)) ∧ True))
  (.ite ((decide (((x1.Ripes.length : Nat) : Int) > 0)) && (decide (((x1.Ripes.getD 0 default).Due) ≤ x0)))
    (.guard ((0 : Int) ≤ 0 ∧ 0 < ((Sl.len (.ripes x1.Ripes) : Nat) : Int))
    (.bind (zbj (⟨2, (x1.Ripes.getD 0 default).Id, 0, 0, [], []⟩ : Packet) x0 x1) fun v6 =>
    (.ite (v6.1 != 0)
      (.leaf (.inr (v6.2, x2)))
      (.guard ((0 : Int) ≤ 1 ∧ 1 ≤ (((Sl.len (.ripes v6.2.Ripes) : Nat) : Int) : Int) ∧ ((Sl.len (.ripes v6.2.Ripes) : Nat) : Int) ≤ ((Sl.len (.ripes v6.2.Ripes) : Nat) : Int))
      (.leaf (.inl (x0, { (v6.2 : zb) with Ripes := ((v6.2.Ripes.drop 1).take ((((Sl.len (.ripes v6.2.Ripes) : Nat) : Int)).toNat - 1)) }, x2)))))))
    (.leaf (.inr (x1, x2)))))
def zbz (x0 : Int) (x1 : zb) (x2 : zb) : Option (zb × zb) := zel (fun s : Int × zb × zb => (zdq s.1 s.2.1 s.2.2).run) (x0, x1, x2)
def za0i : Ann := ⟨[], [], [], zv98, [(23, [800002])]⟩
def za0j : EndD (Int × zb × zb) := ⟨(LQ.seq (Par.q intP) (LQ.skip (LQ.const (.ptr 0 0)) (LQ.skip (LQ.const (.ptr 1 0)) (LQ.seq (LP.q z7) (LP.q z7))))), ⟨[1, 2, 4], [.pubC 2 6, .pubC 2 7]⟩, [.cells 71 22, .cells 71 22]⟩
def zaqa : EndD (zb × zb) := ⟨(LQ.skip (LQ.const (.ptr 0 0)) (LQ.skip (LQ.const (.ptr 1 0)) (LQ.seq (LP.q z7) (LP.q z7)))), ⟨[2, 4], [.pubC 2 6, .pubC 2 7]⟩, [.cells 71 22, .cells 71 22]⟩
def zatu : St → Option LR := L1 106 8 0 za0j (.exit 5) zaqa (fun s => zdq s.1 s.2.1 s.2.2)
theorem za0k : zu (zy98).env 0 (sub zc98 [0, 0, 1, 1, 1, 1, 1, 1]) zatu :=
  zjd (A := za0i) zh98 Facts.mix trivial (k := zcw (sub zc98 [0, 0, 1, 1, 1, 1, 1, 1])) (by kernel_rfl) rfl (by rintro ⟨x0, x1, x2⟩; kernel_rfl)
def za98 : Ann := ⟨[([0, 1, 0, 1, 1, 1, 1], zatt), ([0, 0, 1, 1, 1, 1, 1, 1], zatu)], [], [], zv98, [(23, [800002])]⟩
def zl8 (a0 : zb) (a1 : Int) : Tr (zb × Int) :=
  (.bind (zam a0) fun v1 =>
  (.ite (!v1)
    (.leaf (a0, 2))
    (.ite (!a0.On)
      (.leaf (a0, 4))
      (.ite ((decide (a1 < a0.Time)) || (decide (a1 > 1099511627776)))
        (.leaf (a0, 2))
        (.bind (ze0 a0.Ripes) fun v2 =>
        (.bind (zkg a1 a0.Pending ((a0.Pending.length : Nat) : Int) 0 ({ (a0 : zb) with Height := IntKind.i64.wrap (a0.Height + 1), Time := a1, Ripes := v2 }) (default : zb)) fun v5 =>
        (.bind (zbz v5.1 ({ (v5.2.1 : zb) with Pending := [] }) v5.2.2) fun v7 =>
        (.leaf (v7.1, 0)))))))))
def zw (a0 : zb) (a1 : Int) : Option (zb × Int) := (zl8 a0 a1).run
def zr98 : LQ (zb × Int) := (LQ.seq (Par.q (Par.ofLP z7)) (Par.q intP))
def zvf : LQ (zb × Int) := (LQ.seq (Par.q (Par.ofLP z7)) (Par.q intP))
def zxv : SpecT := zt 0 zr98 2 [] (fun s => zl8 s.1 s.2) default zvf 2 []
theorem z4n : zg Tryz.prog 84 (zxv).spec :=
  zd (A := za98) zh98 Facts.mix Tryz.func84 (c := zc98) (by kernel_rfl) (Lc := 0) ⟨za0h, za0k, trivial⟩ zr98 2 8 [] (fun s => zl8 s.1 s.2) default zvf 2 [] [.pubB 4] (by decide) (by kernel_rfl) (by rfl) (by decide) (by decide) (by rfl)
    (by rintro ⟨a0, a1⟩; kernel_rfl)
noncomputable def zc99 : Code := Tryz.f87.body.getD .skip
def zv99 : List (List Nat) := [[1, 2, 3, 6], [1, 2, 3, 6, 9], [6, 7], [1, 2, 3, 6, 22], [6, 7], [1, 2, 3, 6, 42], [6, 7], [1, 3, 6, 8], [1, 3, 6, 8, 59], [6, 7], [3, 6], [6, 7]]
noncomputable def zy99 : EnvT := ⟨Tryz.prog, zq [(24, ze7), (112, zng), (104, zl7)]⟩
theorem zh99 : (zy99).Ok := zc ⟨zf8, zsc, zph, trivial⟩
def za99 : Ann := ⟨[], [], [], zv99, []⟩
def zkh (a0 : zb) (a1 : Int) (a2 : Int) : Tr (zb × Int) :=
  (.bind (zam a0) fun v1 =>
  (.ite (((!v1) || (decide (a2 < 0))) || (decide (a2 > 1099511627776)))
    (.leaf (a0, 2))
    (.guard (((((!a0.On) || (decide (a1 < 0))) || (decide (a1 ≥ 6))) = false → ((z9 a0.Set a1).isSome = true) ∧ True))
    (.ite ((((!a0.On) || (decide (a1 < 0))) || (decide (a1 ≥ 6))) || (((z9 a0.Set a1).getD default) == 0))
      (.leaf (a0, 4))
      (.guard ((0 : Int) ≤ a1 ∧ (a1 : Int) < 6)
      (.ite (a0.Flags.get a1)
        (.leaf (a0, 5))
        (.guard ((z9 a0.Set a1).isSome = true)
        (.guard ((zbj (⟨3, a0.Id, a1, ((z9 a0.Set a1).getD default), [], []⟩ : Packet) a2 a0).isSome = true)
        (.ite ((((zbj (⟨3, a0.Id, a1, ((z9 a0.Set a1).getD default), [], []⟩ : Packet) a2 a0).getD default).1) != 0)
          (.leaf ((((zbj (⟨3, a0.Id, a1, ((z9 a0.Set a1).getD default), [], []⟩ : Packet) a2 a0).getD default).2), ((zbj (⟨3, a0.Id, a1, ((z9 a0.Set a1).getD default), [], []⟩ : Packet) a2 a0).getD default).1))
          (.guard ((0 : Int) ≤ a1 ∧ (a1 : Int) < 6)
          (.leaf ({ ((((zbj (⟨3, a0.Id, a1, ((z9 a0.Set a1).getD default), [], []⟩ : Packet) a2 a0).getD default).2) : zb) with Flags := (((((zbj (⟨3, a0.Id, a1, ((z9 a0.Set a1).getD default), [], []⟩ : Packet) a2 a0).getD default).2).Flags).set a1 true) }, 0))))))))))))
def zd9 (a0 : zb) (a1 : Int) (a2 : Int) : Option (zb × Int) := (zkh a0 a1 a2).run
def zr99 : LQ (zb × Int × Int) := (LQ.seq (Par.q (Par.ofLP z7)) (LQ.seq (Par.q intP) (Par.q intP)))
def zt3 : LQ (zb × Int) := (LQ.seq (Par.q (Par.ofLP z7)) (Par.q intP))
def zvg : SpecT := zt 0 zr99 3 [] (fun s => zkh s.1 s.2.1 s.2.2) default zt3 2 []
theorem z2p : zg Tryz.prog 87 (zvg).spec :=
  zd (A := za99) zh99 Facts.mix Tryz.func87 (c := zc99) (by kernel_rfl) (Lc := 0) trivial zr99 3 4 [] (fun s => zkh s.1 s.2.1 s.2.2) default zt3 2 [] [.pubB 6] (by decide) (by kernel_rfl) (by rfl) (by decide) (by decide) (by rfl)
    (by rintro ⟨a0, a1, a2⟩; kernel_rfl)
noncomputable def za0l : Code := Tryz.f88.body.getD .skip
def za0m : List (List Nat) := [[1, 2, 3, 4, 8], [1, 2, 3, 4, 8, 11], [8, 9], [1, 2, 3, 4, 8, 24], [8, 9], [1, 2, 3, 4, 8, 37], [8, 9], [4, 8, 10], [4, 8, 10, 58], [8, 9], [8, 9]]
noncomputable def za0n : EnvT := ⟨Tryz.prog, zq [(24, ze7), (112, zng), (104, zl7)]⟩
theorem za0o : (za0n).Ok := zc ⟨zf8, zsc, zph, trivial⟩
def za0p : Ann := ⟨[], [], [], za0m, []⟩
def zhp (a0 : zb) (a1 : Int) (a2 : Int) (a3 : Int) : Tr (zb × Int) :=
  (.bind (zam a0) fun v1 =>
  (.ite (((!v1) || (decide (a3 < 0))) || (decide (a3 > 1099511627776)))
    (.leaf (a0, 2))
    (.ite (((!a0.On) || (decide (a1 < 0))) || (decide (a1 ≥ 6)))
      (.leaf (a0, 4))
      (.ite ((decide (a2 < 1)) || (decide (a2 > a0.Id)))
        (.leaf (a0, 2))
        (.bind (z9 a0.Set a1) fun v2 =>
        (.bind (zbj (⟨4, a2, a1, if v2 > 1 then v2 else 1, [], []⟩ : Packet) a3 a0) fun v3 =>
        (.ite (v3.1 != 0)
          (.leaf (v3.2, v3.1))
          (.leaf (v3.2, 0)))))))))
def zdb (a0 : zb) (a1 : Int) (a2 : Int) (a3 : Int) : Option (zb × Int) := (zhp a0 a1 a2 a3).run
def zatv : LQ (zb × Int × Int × Int) := (LQ.seq (Par.q (Par.ofLP z7)) (LQ.seq (Par.q intP) (LQ.seq (Par.q intP) (Par.q intP))))
def zqv : LQ (zb × Int) := (LQ.seq (Par.q (Par.ofLP z7)) (Par.q intP))
def zsd : SpecT := zt 0 zatv 4 [] (fun s => zhp s.1 s.2.1 s.2.2.1 s.2.2.2) default zqv 2 []
theorem z0k : zg Tryz.prog 88 (zsd).spec :=
  zd (A := za0p) za0o Facts.mix Tryz.func88 (c := za0l) (by kernel_rfl) (Lc := 0) trivial zatv 4 4 [] (fun s => zhp s.1 s.2.1 s.2.2.1 s.2.2.2) default zqv 2 [] [.pubB 8] (by decide) (by kernel_rfl) (by rfl) (by decide) (by decide) (by rfl)
    (by rintro ⟨a0, a1, a2, a3⟩; kernel_rfl)
noncomputable def za0q : Code := Tryz.f111.body.getD .skip
def za0r : List (List Nat) := [[1, 2], [1, 2, 5], [2], [1, 2], [2]]
noncomputable def za0s : EnvT := ⟨Tryz.prog, zq []⟩
theorem za0t : (za0s).Ok := zc trivial
def za0u : Ann := ⟨[], [], [], za0r, []⟩
def zhq (a0 : zb) : Tr (zb) :=
  (.ite (!a0.On)
    (.leaf a0)
    (.leaf ({ (a0 : zb) with On := false, Gone := true, Out := { (a0.Out : zes) with Closed := true } })))
def zgs (a0 : zb) : Option (zb) := (zhq a0).run
def zatw : LQ (zb) := (Par.q (Par.ofLP z7))
def zqw : LQ (zb) := (Par.q (Par.ofLP z7))
def zse : SpecT := zt 0 zatw 1 [] (fun s => zhq s) default zqw 1 []
theorem z0l : zg Tryz.prog 111 (zse).spec :=
  zd (A := za0u) za0t Facts.mix Tryz.func111 (c := za0q) (by kernel_rfl) (Lc := 0) trivial zatw 1 4 [] (fun s => zhq s) default zqw 1 [] [.pubB 2] (by decide) (by kernel_rfl) (by rfl) (by decide) (by decide) (by rfl)
    (by rintro a0; kernel_rfl)
end
end Go.Proofs.YtmakmlnfbdablaaGreat.Ab
