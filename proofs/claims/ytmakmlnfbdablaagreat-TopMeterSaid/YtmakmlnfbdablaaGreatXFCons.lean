/-
  The functions, each by its tree.
-/
import Derived.Test.YtmakmlnfbdablaaGreatXAbFun
import Derived.Test.YtmakmlnfbdablaaGreatXAbStructs
import Derived.Test.YtmakmlnfbdablaaGreatXFCodec
import Derived.Test.YtmakmlnfbdablaaGreatXFLine
import Derived.Test.YtmakmlnfbdablaaGreatXFStakeB
import Derived.Test.YtmakmlnfbdablaaGreatXFacts
namespace Go.Proofs.YtmakmlnfbdablaaGreat.Ab
open Go Go.RowKit
set_option maxRecDepth 100000
set_option linter.unusedVariables false
set_option linter.unusedSimpArgs false
noncomputable section
noncomputable def zc90 : Code := Tryz.f54.body.getD .skip
def zv90 : List (List Nat) := [[1], [2]]
noncomputable def zy90 : EnvT := ⟨Tryz.prog, zt [(55, zmx)]⟩
theorem zh90 : (zy90).Ok := zd ⟨zoo, trivial⟩
def za90 : Ann := ⟨[], [], [], zv90, []⟩
def zhp (a0 : Packet) : Tr (Bool) :=
  (.bind (zf4 a0) fun v1 =>
  (.leaf ((v1 != 0) || (a0.Kind != 1))))
def zqt (a0 : Packet) : Option (Bool) := (zhp a0).run
def zr90 : LQ (Packet) := (Par.q (Par.ofLP zlj))
def zqu : LQ (Bool) := (Par.q boolP)
def zry : SpecT := zu 0 zr90 1 [] (fun s => zhp s) default zqu 1 []
theorem z0s : zh Tryz.prog 54 (zry).spec :=
  ze (A := za90) zh90 Facts.mix Tryz.func54 (c := zc90) (by kernel_rfl) (Lc := 0) trivial zr90 1 3 [] (fun s => zhp s) default zqu 1 [] [] (by decide) (by kernel_rfl) (by rfl) (by decide) (by decide) (by rfl)
    (by rintro a0; kernel_rfl)
noncomputable def zc91 : Code := Tryz.f73.body.getD .skip
def zv91 : List (List Nat) := [[0, 1], [0, 1, 7, 8], [0, 1, 7, 8, 9], [0, 1, 5, 7, 8], [0, 1, 5, 7, 8, 16], [4], [0, 1, 7, 8], [4]]
noncomputable def zy91 : EnvT := ⟨Tryz.prog, zt [(54, zry)]⟩
theorem zh91 : (zy91).Ok := zd ⟨z0s, trivial⟩
def zag (x0 : (List Packet)) (x1 : Int) (x2 : Int) : Tr (((List Packet) × Int × Int) ⊕ ((Int) ⊕ (Unit))) :=
  (.ite (decide (x2 < x1))
    (.guard ((0 : Int) ≤ x2 ∧ x2 < ((Sl.len (.packets x0) : Nat) : Int))
    (.bind (zqt (x0.getD x2.toNat default)) fun v1 =>
    (.ite (v1)
      (.leaf (.inr (.inl x2)))
      (.leaf (.inl (x0, x1, IntKind.i64.wrap (x2 + 1)))))))
    (.leaf (.inr (.inr ()))))
def zen (x0 : (List Packet)) (x1 : Int) (x2 : Int) : Option ((Int) ⊕ (Unit)) := ze1 (fun s : (List Packet) × Int × Int => (zag s.1 s.2.1 s.2.2).run) (x0, x1, x2)
def zaz4 : Ann := ⟨[], [], [], zv91, []⟩
def zaz5 : EndD ((List Packet) × Int × Int) := ⟨(LQ.seq (Par.q zd3) (LQ.skip (LQ.const (.fn 54 [])) (LQ.seq (Par.q intP) (Par.q intP)))), ⟨[0, 1, 7, 8], [.pub 0, .nilsl 0 (.packets [])]⟩, []⟩
def zaqb : EndD (Int) := ⟨(Par.q intP), ⟨[4], []⟩, []⟩
def zaqc : EndD (Unit) := ⟨LQ.nil, ⟨[], []⟩, []⟩
def zatz : St → Option LR := L2 19 2 0 zaz5 .ret zaqb (.exit 0) zaqc (fun s => zag s.1 s.2.1 s.2.2)
theorem zaz6 : zv (zy91).env 0 (sub zc91 [0, 1, 0, 1]) zatz :=
  zs3 (A := zaz4) zh91 Facts.mix trivial (k := zdk (sub zc91 [0, 1, 0, 1])) (by kernel_rfl) rfl rfl (by rintro ⟨x0, x1, x2⟩; kernel_rfl)
def za91 : Ann := ⟨[([0, 1, 0, 1], zatz)], [], [], zv91, []⟩
def zao (a0 : (List Packet)) : Tr (Int) :=
  (.two (zen a0 ((a0.length : Nat) : Int) 0) (fun v2 =>
    (.leaf v2)) (fun v3 =>
    (.leaf (-1))))
def zcv (a0 : (List Packet)) : Option (Int) := (zao a0).run
def zr91 : LQ ((List Packet)) := (LQ.skipR (Par.q zd3) (LQ.const (.fn 54 [])))
def zfu : LQ (Int) := (Par.q intP)
def zgg : SpecT := zu 0 zr91 2 [] (fun s => zao s) default zfu 1 []
theorem zmz : zh Tryz.prog 73 (zgg).spec :=
  ze (A := za91) zh91 Facts.mix Tryz.func73 (c := zc91) (by kernel_rfl) (Lc := 0) ⟨zaz6, trivial⟩ zr91 2 2 [] (fun s => zao s) default zfu 1 [] [] (by decide) (by kernel_rfl) (by rfl) (by decide) (by decide) (by rfl)
    (by rintro a0; kernel_rfl)
noncomputable def zc92 : Code := Tryz.f53.body.getD .skip
def zv92 : List (List Nat) := [[0, 1], [4]]
noncomputable def zy92 : EnvT := ⟨Tryz.prog, zt [(73, zgg)]⟩
theorem zh92 : (zy92).Ok := zd ⟨zmz, trivial⟩
def za92 : Ann := ⟨[], [], [], zv92, []⟩
def zbc (a0 : (List Packet)) : Tr (Bool) :=
  (.bind (zcv a0) fun v1 =>
  (.leaf (decide (v1 ≥ 0))))
def zb2 (a0 : (List Packet)) : Option (Bool) := (zbc a0).run
def zr92 : LQ ((List Packet)) := (LQ.skipR (Par.q zd3) (LQ.const (.fn 54 [])))
def zeo : LQ (Bool) := (Par.q boolP)
def ze2 : SpecT := zu 0 zr92 2 [] (fun s => zbc s) default zeo 1 []
theorem zki : zh Tryz.prog 53 (ze2).spec :=
  ze (A := za92) zh92 Facts.mix Tryz.func53 (c := zc92) (by kernel_rfl) (Lc := 0) trivial zr92 2 2 [] (fun s => zbc s) default zeo 1 [] [] (by decide) (by kernel_rfl) (by rfl) (by decide) (by decide) (by rfl)
    (by rintro a0; kernel_rfl)
noncomputable def zc93 : Code := Tryz.f24.body.getD .skip
def zv93 : List (List Nat) := [[1], [1, 48], [2], [1, 50, 51, 52], [1, 50, 51, 52, 53], [1, 3, 4, 50, 51, 52], [1, 50, 51, 52, 90], [2], [1, 50, 51, 52], [1, 93, 94, 95], [1, 93, 94, 95, 96], [1, 6, 93, 94, 95], [1, 93, 94, 95, 111], [2], [1, 93, 94, 95], [2]]
noncomputable def zy93 : EnvT := ⟨Tryz.prog, zt [(52, zlm), (53, ze2)]⟩
theorem zh93 : (zy93).Ok := zd ⟨zmw, zki, trivial⟩
def zgv (x0 : (List Power)) (x1 : Int) (x2 : Int) (x3 : zb) : Tr (((List Power) × Int × Int × zb) ⊕ ((Bool) ⊕ (zb))) :=
  (.ite (decide (x2 < x1))
    (.guard ((0 : Int) ≤ x2 ∧ x2 < ((Sl.len (.powers x0) : Nat) : Int))
    (.guard (((decide (x2 > 0)) = true → (((decide (((x0.getD x2.toNat default).V) < 0)) || (decide (((x0.getD x2.toNat default).V) ≥ 6))) = false → ((0 : Int) ≤ (IntKind.i64.wrap (x2 - 1)) ∧ (IntKind.i64.wrap (x2 - 1)) < ((Sl.len (.powers x3.Set) : Nat) : Int)) ∧ True)))
    (.ite (((((decide (((x0.getD x2.toNat default).V) < 0)) || (decide (((x0.getD x2.toNat default).V) ≥ 6))) || ((decide (x2 > 0)) && (decide (((x3.Set.getD ((IntKind.i64.wrap (x2 - 1)).toNat) default).V) ≥ ((x0.getD x2.toNat default).V))))) || (decide (((x0.getD x2.toNat default).N) < 1))) || (decide (((x0.getD x2.toNat default).N) > 1125899906842624)))
      (.leaf (.inr (.inl false)))
      (.leaf (.inl (x0, x1, IntKind.i64.wrap (x2 + 1), x3))))))
    (.leaf (.inr (.inr x3))))
def zpj (x0 : (List Power)) (x1 : Int) (x2 : Int) (x3 : zb) : Option ((Bool) ⊕ (zb)) := ze1 (fun s : (List Power) × Int × Int × zb => (zgv s.1 s.2.1 s.2.2.1 s.2.2.2).run) (x0, x1, x2, x3)
def za0a : Ann := ⟨[], [], [], zv93, []⟩
def za0b : EndD ((List Power) × Int × Int × zb) := ⟨(LQ.skip (LQ.const (.ptr 0 0)) (LQ.seq (Par.q zp) (LQ.seq (Par.q intP) (LQ.seq (Par.q intP) (LP.q z9))))), ⟨[1, 50, 51, 52], [.pub 50, .nilsl 50 (.powers [])]⟩, [.cells 71 22]⟩
def zaqd : EndD (Bool) := ⟨(Par.q boolP), ⟨[2], []⟩, []⟩
def zaqe : EndD (zb) := ⟨(LQ.skip (LQ.const (.ptr 0 0)) (LP.q z9)), ⟨[1], []⟩, [.cells 71 22]⟩
def zat1 : St → Option LR := L2 117 4 0 za0b .ret zaqd (.exit 0) zaqe (fun s => zgv s.1 s.2.1 s.2.2.1 s.2.2.2)
theorem za0c : zv (zy93).env 0 (sub zc93 [0, 1, 0, 1, 1]) zat1 :=
  zs3 (A := za0a) zh93 Facts.mix trivial (k := zdk (sub zc93 [0, 1, 0, 1, 1])) (by kernel_rfl) rfl rfl (by rintro ⟨x0, x1, x2, x3⟩; kernel_rfl)
def zde (x0 : (List Ripe)) (x1 : Int) (x2 : Int) (x3 : zb) : Tr (((List Ripe) × Int × Int × zb) ⊕ ((Bool) ⊕ (zb))) :=
  (.ite (decide (x2 < x1))
    (.guard ((0 : Int) ≤ x2 ∧ x2 < ((Sl.len (.ripes x0) : Nat) : Int))
    (.ite (((decide (((x0.getD x2.toNat default).Id) < 1)) || (decide (((x0.getD x2.toNat default).Id) > 1099511627776))) || (decide (((x0.getD x2.toNat default).Due) < 0)))
      (.leaf (.inr (.inl false)))
      (.leaf (.inl (x0, x1, IntKind.i64.wrap (x2 + 1), x3)))))
    (.leaf (.inr (.inr x3))))
def zjk (x0 : (List Ripe)) (x1 : Int) (x2 : Int) (x3 : zb) : Option ((Bool) ⊕ (zb)) := ze1 (fun s : (List Ripe) × Int × Int × zb => (zde s.1 s.2.1 s.2.2.1 s.2.2.2).run) (x0, x1, x2, x3)
def za0d : Ann := ⟨[], [], [], zv93, []⟩
def za0e : EndD ((List Ripe) × Int × Int × zb) := ⟨(LQ.skip (LQ.const (.ptr 0 0)) (LQ.seq (Par.q zxi) (LQ.seq (Par.q intP) (LQ.seq (Par.q intP) (LP.q z9))))), ⟨[1, 93, 94, 95], [.pub 93, .nilsl 93 (.ripes [])]⟩, [.cells 71 22]⟩
def zaqf : EndD (Bool) := ⟨(Par.q boolP), ⟨[2], []⟩, []⟩
def zaqg : EndD (zb) := ⟨(LQ.skip (LQ.const (.ptr 0 0)) (LP.q z9)), ⟨[1], []⟩, [.cells 71 22]⟩
def zat2 : St → Option LR := L2 117 4 0 za0e .ret zaqf (.exit 2) zaqg (fun s => zde s.1 s.2.1 s.2.2.1 s.2.2.2)
theorem za0f : zv (zy93).env 0 (sub zc93 [0, 1, 0, 1, 1, 1]) zat2 :=
  zs3 (A := za0d) zh93 Facts.mix trivial (k := zdk (sub zc93 [0, 1, 0, 1, 1, 1])) (by kernel_rfl) rfl rfl (by rintro ⟨x0, x1, x2, x3⟩; kernel_rfl)
def za93 : Ann := ⟨[([0, 1, 0, 1, 1], zat1), ([0, 1, 0, 1, 1, 1], zat2)], [], [], zv93, []⟩
def zkj (a0 : zb) : Tr (Bool) :=
  (.guard (((((((((a0.On && a0.Gone) || (decide (a0.Height < 0))) || (decide (a0.Height ≥ 1099511627776))) || (decide (a0.Time < 0))) || (decide (a0.Time > 1099511627776))) || (decide (a0.Id < 0))) || (decide (a0.Id > 1099511627776))) = false → ((zek a0.Out).isSome = true) ∧ True))
  (.ite ((((((((a0.On && a0.Gone) || (decide (a0.Height < 0))) || (decide (a0.Height ≥ 1099511627776))) || (decide (a0.Time < 0))) || (decide (a0.Time > 1099511627776))) || (decide (a0.Id < 0))) || (decide (a0.Id > 1099511627776))) || (!((zek a0.Out).getD default)))
    (.leaf false)
    (.two (zpj a0.Set ((a0.Set.length : Nat) : Int) 0 a0) (fun v1 =>
      (.leaf v1)) (fun v2 =>
      (.two (zjk v2.Ripes ((v2.Ripes.length : Nat) : Int) 0 v2) (fun v3 =>
        (.leaf v3)) (fun v4 =>
        (.bind (zb2 v4.Pending) fun v5 =>
        (.leaf (!v5)))))))))
def zeg (a0 : zb) : Option (Bool) := (zkj a0).run
def zr93 : LQ (zb) := (Par.q (Par.ofLP z9))
def zt4 : LQ (Bool) := (Par.q boolP)
def zg9 : SpecT := zu 0 zr93 1 [] (fun s => zkj s) default zt4 1 []
theorem zi6 : zh Tryz.prog 24 (zg9).spec :=
  ze (A := za93) zh93 Facts.mix Tryz.func24 (c := zc93) (by kernel_rfl) (Lc := 0) ⟨za0c, za0f, trivial⟩ zr93 1 4 [] (fun s => zkj s) default zt4 1 [] [] (by decide) (by kernel_rfl) (by rfl) (by decide) (by decide) (by rfl)
    (by rintro a0; kernel_rfl)
noncomputable def zc94 : Code := Tryz.f83.body.getD .skip
def zv94 : List (List Nat) := [[0, 1, 2, 6], [6]]
noncomputable def zy94 : EnvT := ⟨Tryz.prog, zt [(102, zjv)]⟩
theorem zh94 : (zy94).Ok := zd ⟨zrf, trivial⟩
def za94 : Ann := ⟨[], [], [], zv94, []⟩
def zi7 (a0 : (List Power)) (a1 : Int) (a2 : Int) : Tr (zb) :=
  (.bind (zew a0) fun v1 =>
  (.leaf (⟨true, false, 0, a2, a1, v1, [], [], (⟨false, false, false, false, false, false⟩ : (A6 Bool)), (⟨[], [], 0, false⟩ : ze0), (⟨0, 0, 0, 0⟩ : z75)⟩ : zb)))
def zhq (a0 : (List Power)) (a1 : Int) (a2 : Int) : Option (zb) := (zi7 a0 a1 a2).run
def zr94 : LQ ((List Power) × Int × Int) := (LQ.seq (Par.q zp) (LQ.seq (Par.q intP) (Par.q intP)))
def zrz : LQ (zb) := (Par.q (Par.ofLP z9))
def zt5 : SpecT := zu 0 zr94 3 [] (fun s => zi7 s.1 s.2.1 s.2.2) default zrz 1 []
theorem z1l : zh Tryz.prog 83 (zt5).spec :=
  ze (A := za94) zh94 Facts.mix Tryz.func83 (c := zc94) (by kernel_rfl) (Lc := 0) trivial zr94 3 4 [] (fun s => zi7 s.1 s.2.1 s.2.2) default zrz 1 [] [.pubB 6] (by decide) (by kernel_rfl) (by rfl) (by decide) (by decide) (by rfl)
    (by rintro ⟨a0, a1, a2⟩; kernel_rfl)
noncomputable def zc95 : Code := Tryz.f108.body.getD .skip
def zv95 : List (List Nat) := [[1, 2, 4], [2, 4, 6, 7], [2, 4, 6, 7, 13], [4, 5], [2, 4, 6, 7, 18], [4, 5], [2, 4, 6, 7, 23], [4, 5], [2, 4, 6, 28], [4, 5], [2, 4], [4, 5]]
noncomputable def zy95 : EnvT := ⟨Tryz.prog, zt [(37, zrg), (24, zg9), (135, zis)]⟩
theorem zh95 : (zy95).Ok := zd ⟨zu7, zi6, zpz, trivial⟩
def za95 : Ann := ⟨[], [], [], zv95, []⟩
def zkk (a0 : zb) (a1 : ByteArray) : Tr (zb × Int) :=
  (.bind (zff a1) fun v1 =>
  (.bind (zeg a0) fun v2 =>
  (.ite (!v2)
    (.leaf (a0, 2))
    (.ite (!a0.On)
      (.leaf (a0, 4))
      (.ite (v1.2 != 0)
        (.leaf (a0, v1.2))
        (.ite (v1.1.Kind != 1)
          (.leaf (a0, 3))
          (.guard ((zbg a0.Pending).isSome = true)
          (.guard ((Sl.len (.packets ((zbg a0.Pending).getD default)) + Sl.len (.packets [v1.1])) * 80 ≤ 140737488355328)
          (.leaf ({ (a0 : zb) with Pending := ((zbg a0.Pending).getD default) ++ [v1.1] }, 0))))))))))
def zi8 (a0 : zb) (a1 : ByteArray) : Option (zb × Int) := (zkk a0 a1).run
def zr95 : LQ (zb × ByteArray) := (LQ.seq (Par.q (Par.ofLP z9)) (Par.q strP))
def zt6 : LQ (zb × Int) := (LQ.seq (Par.q (Par.ofLP z9)) (Par.q intP))
def zvd : SpecT := zu 0 zr95 2 [] (fun s => zkk s.1 s.2) default zt6 2 []
theorem z21 : zh Tryz.prog 108 (zvd).spec :=
  ze (A := za95) zh95 Facts.mix Tryz.func108 (c := zc95) (by kernel_rfl) (Lc := 0) trivial zr95 2 8 [] (fun s => zkk s.1 s.2) default zt6 2 [] [.pubB 4] (by decide) (by kernel_rfl) (by rfl) (by decide) (by decide) (by rfl)
    (by rintro ⟨a0, a1⟩; kernel_rfl)
noncomputable def zc96 : Code := Tryz.f104.body.getD .skip
def zv96 : List (List Nat) := [[0, 2, 4], [0, 2, 7, 8], [0, 2, 7, 8, 16], [6], [0, 8, 9], [0, 8, 9, 30], [6], [], [6]]
noncomputable def zy96 : EnvT := ⟨Tryz.prog, zt [(28, zl9), (133, z1j)]⟩
theorem zh96 : (zy96).Ok := zd ⟨zpc, z4m, trivial⟩
def za96 : Ann := ⟨[], [], [], zv96, []⟩
def zmc (a0 : Packet) (a1 : Int) (a2 : zb) : Tr (Int × zb) :=
  (.bind (zbl a0) fun v1 =>
  (.ite (v1.2 != 0)
    (.leaf (v1.2, a2))
    (.bind (ztb a2.Out v1.1 (IntKind.i64.wrap (a1 + 40))) fun v2 =>
    (.ite (v2.2 != 0)
      (.leaf (v2.2, a2))
      (.leaf (0, { (a2 : zb) with Out := v2.1 }))))))
def zbm (a0 : Packet) (a1 : Int) (a2 : zb) : Option (Int × zb) := (zmc a0 a1 a2).run
def zr96 : LQ (Packet × Int × zb) := (LQ.skip (LQ.const (.ptr 0 0)) (LQ.seq (Par.q (Par.ofLP zlj)) (LQ.seq (Par.q intP) (LP.q z9))))
def zve : LQ (Int × zb) := (LQ.seq (Par.q intP) (LP.q z9))
def zmd : SpecT := zu 1 zr96 3 [.cells 71 22] (fun s => zmc s.1 s.2.1 s.2.2) default zve 1 [.cells 71 22]
theorem zpk : zh Tryz.prog 104 (zmd).spec :=
  ze (A := za96) zh96 Facts.mix Tryz.func104 (c := zc96) (by kernel_rfl) (Lc := 1) trivial zr96 3 5 [.cells 71 22] (fun s => zmc s.1 s.2.1 s.2.2) default zve 1 [.cells 71 22] [.pubN 0] (by decide) (by kernel_rfl) (by rfl) (by decide) (by decide) (by rfl)
    (by rintro ⟨a0, a1, a2⟩; kernel_rfl)
noncomputable def zc97 : Code := Tryz.f112.body.getD .skip
def zv97 : List (List Nat) := [[0, 1], [1, 7, 8, 9], [1, 7, 8, 9, 10], [1, 6, 7, 8, 9], [1, 6, 7, 8, 9, 16], [4], [1, 7, 8, 9], [4]]
noncomputable def zy97 : EnvT := ⟨Tryz.prog, zt []⟩
theorem zh97 : (zy97).Ok := zd trivial
def zdy (x0 : Int) (x1 : (List Power)) (x2 : Int) (x3 : Int) : Tr ((Int × (List Power) × Int × Int) ⊕ ((Int) ⊕ (Unit))) :=
  (.ite (decide (x3 < x2))
    (.guard ((0 : Int) ≤ x3 ∧ x3 < ((Sl.len (.powers x1) : Nat) : Int))
    (.ite (((x1.getD x3.toNat default).V) == x0)
      (.leaf (.inr (.inl ((x1.getD x3.toNat default).N))))
      (.leaf (.inl (x0, x1, x2, IntKind.i64.wrap (x3 + 1))))))
    (.leaf (.inr (.inr ()))))
def znq (x0 : Int) (x1 : (List Power)) (x2 : Int) (x3 : Int) : Option ((Int) ⊕ (Unit)) := ze1 (fun s : Int × (List Power) × Int × Int => (zdy s.1 s.2.1 s.2.2.1 s.2.2.2).run) (x0, x1, x2, x3)
def za0h : Ann := ⟨[], [], [], zv97, []⟩
def za0i : EndD (Int × (List Power) × Int × Int) := ⟨(LQ.seq (Par.q intP) (LQ.seq (Par.q zp) (LQ.seq (Par.q intP) (Par.q intP)))), ⟨[1, 7, 8, 9], [.pub 7, .nilsl 7 (.powers [])]⟩, []⟩
def zaqh : EndD (Int) := ⟨(Par.q intP), ⟨[4], []⟩, []⟩
def zaqi : EndD (Unit) := ⟨LQ.nil, ⟨[], []⟩, []⟩
def zat3 : St → Option LR := L2 20 3 0 za0i .ret zaqh (.exit 0) zaqi (fun s => zdy s.1 s.2.1 s.2.2.1 s.2.2.2)
theorem za0j : zv (zy97).env 0 (sub zc97 [0, 1, 0, 1]) zat3 :=
  zs3 (A := za0h) zh97 Facts.mix trivial (k := zdk (sub zc97 [0, 1, 0, 1])) (by kernel_rfl) rfl rfl (by rintro ⟨x0, x1, x2, x3⟩; kernel_rfl)
def za97 : Ann := ⟨[([0, 1, 0, 1], zat3)], [], [], zv97, []⟩
def zi9 (a0 : (List Power)) (a1 : Int) : Tr (Int) :=
  (.two (znq a1 a0 ((a0.length : Nat) : Int) 0) (fun v1 =>
    (.leaf v1)) (fun v2 =>
    (.leaf 0)))
def zab (a0 : (List Power)) (a1 : Int) : Option (Int) := (zi9 a0 a1).run
def zr97 : LQ ((List Power) × Int) := (LQ.seq (Par.q zp) (Par.q intP))
def zsa : LQ (Int) := (Par.q intP)
def zni : SpecT := zu 0 zr97 2 [] (fun s => zi9 s.1 s.2) default zsa 1 []
theorem zsb : zh Tryz.prog 112 (zni).spec :=
  ze (A := za97) zh97 Facts.mix Tryz.func112 (c := zc97) (by kernel_rfl) (Lc := 0) ⟨za0j, trivial⟩ zr97 2 3 [] (fun s => zi9 s.1 s.2) default zsa 1 [] [] (by decide) (by kernel_rfl) (by rfl) (by decide) (by decide) (by rfl)
    (by rintro ⟨a0, a1⟩; kernel_rfl)
noncomputable def zc98 : Code := Tryz.f84.body.getD .skip
def zv98 : List (List Nat) := [[1, 2, 4], [1, 2, 4, 10], [4, 5], [1, 2, 4, 15], [4, 5], [1, 2, 4, 20], [4, 5], [1, 2, 4], [1, 2, 4], [1, 2, 4, 41, 42, 43], [1, 2, 4, 41, 42, 43, 44], [1, 2, 4, 7, 41, 42, 43], [1, 2, 4, 7, 41, 42, 43], [1, 2, 4, 7, 41, 42, 43], [1, 2, 4, 7, 41, 42, 43, 57, 58, 59], [1, 2, 4, 7, 41, 42, 43, 57, 58, 59, 60], [1, 2, 4, 7, 9, 41, 42, 43, 57, 58, 59], [1, 2, 4, 7, 41, 42, 43, 57, 58, 59], [1, 2, 4, 7, 41, 42, 43, 57, 58, 59], [1, 2, 4, 41, 42, 43], [1, 2, 4, 41, 42, 43], [1, 2, 4], [1, 2, 4, 91], [1, 2, 4, 100], [1, 2, 4], [4, 5]]
noncomputable def zy98 : EnvT := ⟨Tryz.prog, zt [(24, zg9), (103, zj8), (36, z0r), (104, zmd)]⟩
theorem zh98 : (zy98).Ok := zd ⟨zi6, zrw, z6o, zpk, trivial⟩
def zfi (x0 : Int) (x1 : (List Packet)) (x2 : Int) (x3 : Int) (x4 : (List Int)) (x5 : Int) (x6 : Int) (x7 : zb) (x8 : zb) (x9 : Packet) : Tr ((Int × (List Packet) × Int × Int × (List Int) × Int × Int × zb × zb × Packet) ⊕ (Int × (List Packet) × Int × Int × zb × zb × Packet)) :=
  (.ite (decide (x6 < x5))
    (.guard ((0 : Int) ≤ x6 ∧ x6 < ((Sl.len (.ints x4) : Nat) : Int))
    (.guard ((0 : Int) ≤ (x4.getD x6.toNat 0) ∧ ((x4.getD x6.toNat 0) : Int) < 6)
    (.leaf (.inl (x0, x1, x2, x3, x4, x5, IntKind.i64.wrap (x6 + 1), { (x7 : zb) with Flags := (x7.Flags.set (x4.getD x6.toNat 0) false) }, x8, x9)))))
    (.leaf (.inr (x0, x1, x2, x3, x7, x8, x9))))
def zkl (x0 : Int) (x1 : (List Packet)) (x2 : Int) (x3 : Int) (x4 : (List Int)) (x5 : Int) (x6 : Int) (x7 : zb) (x8 : zb) (x9 : Packet) : Option (Int × (List Packet) × Int × Int × zb × zb × Packet) := ze1 (fun s : Int × (List Packet) × Int × Int × (List Int) × Int × Int × zb × zb × Packet => (zfi s.1 s.2.1 s.2.2.1 s.2.2.2.1 s.2.2.2.2.1 s.2.2.2.2.2.1 s.2.2.2.2.2.2.1 s.2.2.2.2.2.2.2.1 s.2.2.2.2.2.2.2.2.1 s.2.2.2.2.2.2.2.2.2).run) (x0, x1, x2, x3, x4, x5, x6, x7, x8, x9)
def za0k : Ann := ⟨[], [], [], zv98, [(23, [800002])]⟩
def za0l : EndD (Int × (List Packet) × Int × Int × (List Int) × Int × Int × zb × zb × Packet) := ⟨(LQ.map (LQ.seq (Par.q intP) (LQ.skip (LQ.const (.ptr 0 0)) (LQ.skip (LQ.const (.ptr 1 0)) (LQ.skip (LQ.const (.ptr 2 0)) (LQ.seq (Par.q zd3) (LQ.seq (Par.q intP) (LQ.seq (Par.q intP) (LQ.seq (Par.q zg1) (LQ.seq (Par.q intP) (LQ.seq (Par.q intP) (LQ.seq (Par.q boolP) (LQ.seq (Par.q boolP) (LQ.seq (Par.q intP) (LQ.seq (Par.q intP) (LQ.seq (Par.q intP) (LQ.seq (Par.q zp) (LQ.seq (Par.q zd3) (LQ.skip (LQ.const (.own 3)) (LQ.seq (LP.q (a6L (LP.one boolP))) (LQ.seq (LP.q lineL) (LQ.seq (LP.q z76) (LQ.seq (LP.q z9) (LQ.seq (LP.q zlj) (Par.q zxi)))))))))))))))))))))))) (fun x : Int × (List Packet) × Int × Int × (List Int) × Int × Int × Bool × Bool × Int × Int × Int × (List Power) × (List Packet) × (A6 Bool) × ze0 × z75 × zb × Packet × (List Ripe) => ((x.1, x.2.1, x.2.2.1, x.2.2.2.1, x.2.2.2.2.1, x.2.2.2.2.2.1, x.2.2.2.2.2.2.1, (⟨x.2.2.2.2.2.2.2.1, x.2.2.2.2.2.2.2.2.1, x.2.2.2.2.2.2.2.2.2.1, x.2.2.2.2.2.2.2.2.2.2.1, x.2.2.2.2.2.2.2.2.2.2.2.1, x.2.2.2.2.2.2.2.2.2.2.2.2.1, x.2.2.2.2.2.2.2.2.2.2.2.2.2.1, x.2.2.2.2.2.2.2.2.2.2.2.2.2.2.2.2.2.2.2, x.2.2.2.2.2.2.2.2.2.2.2.2.2.2.1, x.2.2.2.2.2.2.2.2.2.2.2.2.2.2.2.1, x.2.2.2.2.2.2.2.2.2.2.2.2.2.2.2.2.1⟩ : zb), x.2.2.2.2.2.2.2.2.2.2.2.2.2.2.2.2.2.1, x.2.2.2.2.2.2.2.2.2.2.2.2.2.2.2.2.2.2.1) : Int × (List Packet) × Int × Int × (List Int) × Int × Int × zb × zb × Packet)) (fun y => (y.1, y.2.1, y.2.2.1, y.2.2.2.1, y.2.2.2.2.1, y.2.2.2.2.2.1, y.2.2.2.2.2.2.1, y.2.2.2.2.2.2.2.1.On, y.2.2.2.2.2.2.2.1.Gone, y.2.2.2.2.2.2.2.1.Height, y.2.2.2.2.2.2.2.1.Time, y.2.2.2.2.2.2.2.1.Id, y.2.2.2.2.2.2.2.1.Set, y.2.2.2.2.2.2.2.1.Pending, y.2.2.2.2.2.2.2.1.Flags, y.2.2.2.2.2.2.2.1.Out, y.2.2.2.2.2.2.2.1.Seen, y.2.2.2.2.2.2.2.2.1, y.2.2.2.2.2.2.2.2.2, y.2.2.2.2.2.2.2.1.Ripes)) (fun _ => rfl)), ⟨[1, 2, 4, 7, 41, 42, 43, 57, 58, 59], [.nilcell 2 7 103 (.ripes []), .pub 41, .nilsl 41 (.packets []), .pub 57, .nilsl 57 (.ints [])]⟩, [.cells 71 22, .cells 71 22, .cells 79 6, .rows 103]⟩
def zaqk : EndD (Int × (List Packet) × Int × Int × zb × zb × Packet) := ⟨(LQ.map (LQ.seq (Par.q intP) (LQ.skip (LQ.const (.ptr 0 0)) (LQ.skip (LQ.const (.ptr 1 0)) (LQ.skip (LQ.const (.ptr 2 0)) (LQ.seq (Par.q zd3) (LQ.seq (Par.q intP) (LQ.seq (Par.q intP) (LQ.seq (Par.q boolP) (LQ.seq (Par.q boolP) (LQ.seq (Par.q intP) (LQ.seq (Par.q intP) (LQ.seq (Par.q intP) (LQ.seq (Par.q zp) (LQ.seq (Par.q zd3) (LQ.skip (LQ.const (.own 3)) (LQ.seq (LP.q (a6L (LP.one boolP))) (LQ.seq (LP.q lineL) (LQ.seq (LP.q z76) (LQ.seq (LP.q z9) (LQ.seq (LP.q zlj) (Par.q zxi))))))))))))))))))))) (fun x : Int × (List Packet) × Int × Int × Bool × Bool × Int × Int × Int × (List Power) × (List Packet) × (A6 Bool) × ze0 × z75 × zb × Packet × (List Ripe) => ((x.1, x.2.1, x.2.2.1, x.2.2.2.1, (⟨x.2.2.2.2.1, x.2.2.2.2.2.1, x.2.2.2.2.2.2.1, x.2.2.2.2.2.2.2.1, x.2.2.2.2.2.2.2.2.1, x.2.2.2.2.2.2.2.2.2.1, x.2.2.2.2.2.2.2.2.2.2.1, x.2.2.2.2.2.2.2.2.2.2.2.2.2.2.2.2, x.2.2.2.2.2.2.2.2.2.2.2.1, x.2.2.2.2.2.2.2.2.2.2.2.2.1, x.2.2.2.2.2.2.2.2.2.2.2.2.2.1⟩ : zb), x.2.2.2.2.2.2.2.2.2.2.2.2.2.2.1, x.2.2.2.2.2.2.2.2.2.2.2.2.2.2.2.1) : Int × (List Packet) × Int × Int × zb × zb × Packet)) (fun y => (y.1, y.2.1, y.2.2.1, y.2.2.2.1, y.2.2.2.2.1.On, y.2.2.2.2.1.Gone, y.2.2.2.2.1.Height, y.2.2.2.2.1.Time, y.2.2.2.2.1.Id, y.2.2.2.2.1.Set, y.2.2.2.2.1.Pending, y.2.2.2.2.1.Flags, y.2.2.2.2.1.Out, y.2.2.2.2.1.Seen, y.2.2.2.2.2.1, y.2.2.2.2.2.2, y.2.2.2.2.1.Ripes)) (fun _ => rfl)), ⟨[1, 2, 4, 7, 41, 42, 43], [.nilcell 2 7 103 (.ripes []), .pub 41, .nilsl 41 (.packets [])]⟩, [.cells 71 22, .cells 71 22, .cells 79 6, .rows 103]⟩
def zat4 : St → Option LR := L1 106 8 0 za0l (.exit 3) zaqk (fun s => zfi s.1 s.2.1 s.2.2.1 s.2.2.2.1 s.2.2.2.2.1 s.2.2.2.2.2.1 s.2.2.2.2.2.2.1 s.2.2.2.2.2.2.2.1 s.2.2.2.2.2.2.2.2.1 s.2.2.2.2.2.2.2.2.2)
theorem za0m : zv (zy98).env 0 (sub zc98 [0, 1, 0, 1, 1, 1, 0, 0, 1, 1, 0, 0, 1, 0, 1, 1, 1, 1]) zat4 :=
  zii (A := za0k) zh98 Facts.mix trivial (k := zdk (sub zc98 [0, 1, 0, 1, 1, 1, 0, 0, 1, 1, 0, 0, 1, 0, 1, 1, 1, 1])) (by kernel_rfl) rfl (by rintro ⟨x0, x1, x2, x3, x4, x5, x6, x7, x8, x9⟩; kernel_rfl)
def zfj (x0 : Int) (x1 : (List Packet)) (x2 : Int) (x3 : Int) (x4 : zb) (x5 : zb) : Tr ((Int × (List Packet) × Int × Int × zb × zb) ⊕ (Int × zb × zb)) :=
  (.ite (decide (x3 < x2))
    (.guard ((0 : Int) ≤ x3 ∧ x3 < ((Sl.len (.packets x1) : Nat) : Int))
    (.bind (zrh x4.Set ((x1.getD x3.toNat default).Set)) fun v3 =>
    (.bind (zkl x0 x1 x2 x3 ((x1.getD x3.toNat default).Done) ((((x1.getD x3.toNat default).Done).length : Nat) : Int) 0 ({ (x4 : zb) with Id := (x1.getD x3.toNat default).Id, Set := v3 }) x5 (x1.getD x3.toNat default)) fun v4 =>
    (.guard ((Sl.len (.ripes v4.2.2.2.2.1.Ripes) + Sl.len (.ripes [(⟨v4.2.2.2.2.2.2.Id, IntKind.i64.wrap (v4.1 + 15)⟩ : Ripe)])) * 16 ≤ 140737488355328)
    (.leaf (.inl (v4.1, v4.2.1, v4.2.2.1, IntKind.i64.wrap (v4.2.2.2.1 + 1), { (v4.2.2.2.2.1 : zb) with Ripes := v4.2.2.2.2.1.Ripes ++ [(⟨v4.2.2.2.2.2.2.Id, IntKind.i64.wrap (v4.1 + 15)⟩ : Ripe)] }, v4.2.2.2.2.2.1)))))))
    (.leaf (.inr (x0, x4, x5))))
def zkm (x0 : Int) (x1 : (List Packet)) (x2 : Int) (x3 : Int) (x4 : zb) (x5 : zb) : Option (Int × zb × zb) := ze1 (fun s : Int × (List Packet) × Int × Int × zb × zb => (zfj s.1 s.2.1 s.2.2.1 s.2.2.2.1 s.2.2.2.2.1 s.2.2.2.2.2).run) (x0, x1, x2, x3, x4, x5)
def za0n : Ann := ⟨[([0, 1, 0, 1, 1, 1, 0, 0, 1, 1, 0, 0, 1, 0, 1, 1, 1, 1], zat4)], [], [], zv98, [(23, [800002])]⟩
def za0o : EndD (Int × (List Packet) × Int × Int × zb × zb) := ⟨(LQ.map (LQ.seq (Par.q intP) (LQ.skip (LQ.const (.ptr 0 0)) (LQ.skip (LQ.const (.ptr 1 0)) (LQ.seq (Par.q zd3) (LQ.seq (Par.q intP) (LQ.seq (Par.q intP) (LQ.seq (Par.q boolP) (LQ.seq (Par.q boolP) (LQ.seq (Par.q intP) (LQ.seq (Par.q intP) (LQ.seq (Par.q intP) (LQ.seq (Par.q zp) (LQ.seq (Par.q zd3) (LQ.skip (LQ.const (.own 2)) (LQ.seq (LP.q (a6L (LP.one boolP))) (LQ.seq (LP.q lineL) (LQ.seq (LP.q z76) (LQ.seq (LP.q z9) (Par.q zxi))))))))))))))))))) (fun x : Int × (List Packet) × Int × Int × Bool × Bool × Int × Int × Int × (List Power) × (List Packet) × (A6 Bool) × ze0 × z75 × zb × (List Ripe) => ((x.1, x.2.1, x.2.2.1, x.2.2.2.1, (⟨x.2.2.2.2.1, x.2.2.2.2.2.1, x.2.2.2.2.2.2.1, x.2.2.2.2.2.2.2.1, x.2.2.2.2.2.2.2.2.1, x.2.2.2.2.2.2.2.2.2.1, x.2.2.2.2.2.2.2.2.2.2.1, x.2.2.2.2.2.2.2.2.2.2.2.2.2.2.2, x.2.2.2.2.2.2.2.2.2.2.2.1, x.2.2.2.2.2.2.2.2.2.2.2.2.1, x.2.2.2.2.2.2.2.2.2.2.2.2.2.1⟩ : zb), x.2.2.2.2.2.2.2.2.2.2.2.2.2.2.1) : Int × (List Packet) × Int × Int × zb × zb)) (fun y => (y.1, y.2.1, y.2.2.1, y.2.2.2.1, y.2.2.2.2.1.On, y.2.2.2.2.1.Gone, y.2.2.2.2.1.Height, y.2.2.2.2.1.Time, y.2.2.2.2.1.Id, y.2.2.2.2.1.Set, y.2.2.2.2.1.Pending, y.2.2.2.2.1.Flags, y.2.2.2.2.1.Out, y.2.2.2.2.1.Seen, y.2.2.2.2.2, y.2.2.2.2.1.Ripes)) (fun _ => rfl)), ⟨[1, 2, 4, 41, 42, 43], [.nilcell 2 7 103 (.ripes []), .pub 41, .nilsl 41 (.packets [])]⟩, [.cells 71 22, .cells 71 22, .rows 103]⟩
def zaql : EndD (Int × zb × zb) := ⟨(LQ.map (LQ.seq (Par.q intP) (LQ.skip (LQ.const (.ptr 0 0)) (LQ.skip (LQ.const (.ptr 1 0)) (LQ.seq (Par.q boolP) (LQ.seq (Par.q boolP) (LQ.seq (Par.q intP) (LQ.seq (Par.q intP) (LQ.seq (Par.q intP) (LQ.seq (Par.q zp) (LQ.seq (Par.q zd3) (LQ.skip (LQ.const (.own 2)) (LQ.seq (LP.q (a6L (LP.one boolP))) (LQ.seq (LP.q lineL) (LQ.seq (LP.q z76) (LQ.seq (LP.q z9) (Par.q zxi)))))))))))))))) (fun x : Int × Bool × Bool × Int × Int × Int × (List Power) × (List Packet) × (A6 Bool) × ze0 × z75 × zb × (List Ripe) => ((x.1, (⟨x.2.1, x.2.2.1, x.2.2.2.1, x.2.2.2.2.1, x.2.2.2.2.2.1, x.2.2.2.2.2.2.1, x.2.2.2.2.2.2.2.1, x.2.2.2.2.2.2.2.2.2.2.2.2, x.2.2.2.2.2.2.2.2.1, x.2.2.2.2.2.2.2.2.2.1, x.2.2.2.2.2.2.2.2.2.2.1⟩ : zb), x.2.2.2.2.2.2.2.2.2.2.2.1) : Int × zb × zb)) (fun y => (y.1, y.2.1.On, y.2.1.Gone, y.2.1.Height, y.2.1.Time, y.2.1.Id, y.2.1.Set, y.2.1.Pending, y.2.1.Flags, y.2.1.Out, y.2.1.Seen, y.2.2, y.2.1.Ripes)) (fun _ => rfl)), ⟨[1, 2, 4], [.nilcell 2 7 103 (.ripes [])]⟩, [.cells 71 22, .cells 71 22, .rows 103]⟩
def zat5 : St → Option LR := L1 106 8 0 za0o (.exit 1) zaql (fun s => zfj s.1 s.2.1 s.2.2.1 s.2.2.2.1 s.2.2.2.2.1 s.2.2.2.2.2)
theorem za0p : zv (zy98).env 0 (sub zc98 [0, 1, 0, 1, 1, 1, 1]) zat5 :=
  zii (A := za0n) zh98 Facts.mix ⟨za0m, trivial⟩ (k := zdk (sub zc98 [0, 1, 0, 1, 1, 1, 1])) (by kernel_rfl) rfl (by rintro ⟨x0, x1, x2, x3, x4, x5⟩; kernel_rfl)
def zdv (x0 : Int) (x1 : zb) (x2 : zb) : Tr ((Int × zb × zb) ⊕ (zb × zb)) :=
  (.guard (((decide (((x1.Ripes.length : Nat) : Int) > 0)) = true → ((0 : Int) ≤ 0 ∧ 0 < ((Sl.len (.ripes x1.Ripes) : Nat) : Int)) ∧ True))
  (.ite ((decide (((x1.Ripes.length : Nat) : Int) > 0)) && (decide (((x1.Ripes.getD 0 default).Due) ≤ x0)))
    (.guard ((0 : Int) ≤ 0 ∧ 0 < ((Sl.len (.ripes x1.Ripes) : Nat) : Int))
    (.bind (zbm (⟨2, (x1.Ripes.getD 0 default).Id, 0, 0, [], []⟩ : Packet) x0 x1) fun v6 =>
    (.ite (v6.1 != 0)
      (.leaf (.inr (v6.2, x2)))
      (.guard ((0 : Int) ≤ 1 ∧ 1 ≤ (((Sl.len (.ripes v6.2.Ripes) : Nat) : Int) : Int) ∧ ((Sl.len (.ripes v6.2.Ripes) : Nat) : Int) ≤ ((Sl.len (.ripes v6.2.Ripes) : Nat) : Int))
      (.leaf (.inl (x0, { (v6.2 : zb) with Ripes := ((v6.2.Ripes.drop 1).take ((((Sl.len (.ripes v6.2.Ripes) : Nat) : Int)).toNat - 1)) }, x2)))))))
    (.leaf (.inr (x1, x2)))))
def zb3 (x0 : Int) (x1 : zb) (x2 : zb) : Option (zb × zb) := ze1 (fun s : Int × zb × zb => (zdv s.1 s.2.1 s.2.2).run) (x0, x1, x2)
def za0q : Ann := ⟨[], [], [], zv98, [(23, [800002])]⟩
def za0r : EndD (Int × zb × zb) := ⟨(LQ.seq (Par.q intP) (LQ.skip (LQ.const (.ptr 0 0)) (LQ.skip (LQ.const (.ptr 1 0)) (LQ.seq (LP.q z9) (LP.q z9))))), ⟨[1, 2, 4], [.pubC 2 6, .pubC 2 7]⟩, [.cells 71 22, .cells 71 22]⟩
def zaqm : EndD (zb × zb) := ⟨(LQ.skip (LQ.const (.ptr 0 0)) (LQ.skip (LQ.const (.ptr 1 0)) (LQ.seq (LP.q z9) (LP.q z9)))), ⟨[2, 4], [.pubC 2 6, .pubC 2 7]⟩, [.cells 71 22, .cells 71 22]⟩
def zat6 : St → Option LR := L1 106 8 0 za0r (.exit 5) zaqm (fun s => zdv s.1 s.2.1 s.2.2)
theorem za0s : zv (zy98).env 0 (sub zc98 [0, 0, 1, 1, 1, 1, 1, 1]) zat6 :=
  zii (A := za0q) zh98 Facts.mix trivial (k := zdk (sub zc98 [0, 0, 1, 1, 1, 1, 1, 1])) (by kernel_rfl) rfl (by rintro ⟨x0, x1, x2⟩; kernel_rfl)
def za98 : Ann := ⟨[([0, 1, 0, 1, 1, 1, 1], zat5), ([0, 0, 1, 1, 1, 1, 1, 1], zat6)], [], [], zv98, [(23, [800002])]⟩
def zme (a0 : zb) (a1 : Int) : Tr (zb × Int) :=
  (.bind (zeg a0) fun v1 =>
  (.ite (!v1)
    (.leaf (a0, 2))
    (.ite (!a0.On)
      (.leaf (a0, 4))
      (.ite ((decide (a1 < a0.Time)) || (decide (a1 > 1099511627776)))
        (.leaf (a0, 2))
        (.bind (zfb a0.Ripes) fun v2 =>
        (.bind (zkm a1 a0.Pending ((a0.Pending.length : Nat) : Int) 0 ({ (a0 : zb) with Height := IntKind.i64.wrap (a0.Height + 1), Time := a1, Ripes := v2 }) (default : zb)) fun v5 =>
        (.bind (zb3 v5.1 ({ (v5.2.1 : zb) with Pending := [] }) v5.2.2) fun v7 =>
        (.leaf (v7.1, 0)))))))))
def zx (a0 : zb) (a1 : Int) : Option (zb × Int) := (zme a0 a1).run
def zr98 : LQ (zb × Int) := (LQ.seq (Par.q (Par.ofLP z9)) (Par.q intP))
def zvf : LQ (zb × Int) := (LQ.seq (Par.q (Par.ofLP z9)) (Par.q intP))
def zx2 : SpecT := zu 0 zr98 2 [] (fun s => zme s.1 s.2) default zvf 2 []
theorem z4u : zh Tryz.prog 84 (zx2).spec :=
  ze (A := za98) zh98 Facts.mix Tryz.func84 (c := zc98) (by kernel_rfl) (Lc := 0) ⟨za0p, za0s, trivial⟩ zr98 2 8 [] (fun s => zme s.1 s.2) default zvf 2 [] [.pubB 4] (by decide) (by kernel_rfl) (by rfl) (by decide) (by decide) (by rfl)
    (by rintro ⟨a0, a1⟩; kernel_rfl)
noncomputable def zc99 : Code := Tryz.f87.body.getD .skip
def zv99 : List (List Nat) := [[1, 2, 3, 6], [1, 2, 3, 6, 9], [6, 7], [1, 2, 3, 6, 22], [6, 7], [1, 2, 3, 6, 42], [6, 7], [1, 3, 6, 8], [1, 3, 6, 8, 59], [6, 7], [3, 6], [6, 7]]
noncomputable def zy99 : EnvT := ⟨Tryz.prog, zt [(24, zg9), (112, zni), (104, zmd)]⟩
theorem zh99 : (zy99).Ok := zd ⟨zi6, zsb, zpk, trivial⟩
def za99 : Ann := ⟨[], [], [], zv99, []⟩
def zkn (a0 : zb) (a1 : Int) (a2 : Int) : Tr (zb × Int) :=
  (.bind (zeg a0) fun v1 =>
  (.ite (((!v1) || (decide (a2 < 0))) || (decide (a2 > 1099511627776)))
    (.leaf (a0, 2))
    (.guard (((((!a0.On) || (decide (a1 < 0))) || (decide (a1 ≥ 6))) = false → ((zab a0.Set a1).isSome = true) ∧ True))
    (.ite ((((!a0.On) || (decide (a1 < 0))) || (decide (a1 ≥ 6))) || (((zab a0.Set a1).getD default) == 0))
      (.leaf (a0, 4))
      (.guard ((0 : Int) ≤ a1 ∧ (a1 : Int) < 6)
      (.ite (a0.Flags.get a1)
        (.leaf (a0, 5))
        (.guard ((zab a0.Set a1).isSome = true)
        (.guard ((zbm (⟨3, a0.Id, a1, ((zab a0.Set a1).getD default), [], []⟩ : Packet) a2 a0).isSome = true)
        (.ite ((((zbm (⟨3, a0.Id, a1, ((zab a0.Set a1).getD default), [], []⟩ : Packet) a2 a0).getD default).1) != 0)
          (.leaf ((((zbm (⟨3, a0.Id, a1, ((zab a0.Set a1).getD default), [], []⟩ : Packet) a2 a0).getD default).2), ((zbm (⟨3, a0.Id, a1, ((zab a0.Set a1).getD default), [], []⟩ : Packet) a2 a0).getD default).1))
          (.guard ((0 : Int) ≤ a1 ∧ (a1 : Int) < 6)
          (.leaf ({ ((((zbm (⟨3, a0.Id, a1, ((zab a0.Set a1).getD default), [], []⟩ : Packet) a2 a0).getD default).2) : zb) with Flags := (((((zbm (⟨3, a0.Id, a1, ((zab a0.Set a1).getD default), [], []⟩ : Packet) a2 a0).getD default).2).Flags).set a1 true) }, 0))))))))))))
def zeh (a0 : zb) (a1 : Int) (a2 : Int) : Option (zb × Int) := (zkn a0 a1 a2).run
def zr99 : LQ (zb × Int × Int) := (LQ.seq (Par.q (Par.ofLP z9)) (LQ.seq (Par.q intP) (Par.q intP)))
def zt7 : LQ (zb × Int) := (LQ.seq (Par.q (Par.ofLP z9)) (Par.q intP))
def zvg : SpecT := zu 0 zr99 3 [] (fun s => zkn s.1 s.2.1 s.2.2) default zt7 2 []
theorem z22 : zh Tryz.prog 87 (zvg).spec :=
  ze (A := za99) zh99 Facts.mix Tryz.func87 (c := zc99) (by kernel_rfl) (Lc := 0) trivial zr99 3 4 [] (fun s => zkn s.1 s.2.1 s.2.2) default zt7 2 [] [.pubB 6] (by decide) (by kernel_rfl) (by rfl) (by decide) (by decide) (by rfl)
    (by rintro ⟨a0, a1, a2⟩; kernel_rfl)
noncomputable def za0t : Code := Tryz.f88.body.getD .skip
def za0u : List (List Nat) := [[1, 2, 3, 4, 8], [1, 2, 3, 4, 8, 11], [8, 9], [1, 2, 3, 4, 8, 24], [8, 9], [1, 2, 3, 4, 8, 37], [8, 9], [4, 8, 10], [4, 8, 10, 58], [8, 9], [8, 9]]
noncomputable def za0v : EnvT := ⟨Tryz.prog, zt [(24, zg9), (112, zni), (104, zmd)]⟩
theorem za0w : (za0v).Ok := zd ⟨zi6, zsb, zpk, trivial⟩
def za0x : Ann := ⟨[], [], [], za0u, []⟩
def zhr (a0 : zb) (a1 : Int) (a2 : Int) (a3 : Int) : Tr (zb × Int) :=
  (.bind (zeg a0) fun v1 =>
  (.ite (((!v1) || (decide (a3 < 0))) || (decide (a3 > 1099511627776)))
    (.leaf (a0, 2))
    (.ite (((!a0.On) || (decide (a1 < 0))) || (decide (a1 ≥ 6)))
      (.leaf (a0, 4))
      (.ite ((decide (a2 < 1)) || (decide (a2 > a0.Id)))
        (.leaf (a0, 2))
        (.bind (zab a0.Set a1) fun v2 =>
        (.bind (zbm (⟨4, a2, a1, if v2 > 1 then v2 else 1, [], []⟩ : Packet) a3 a0) fun v3 =>
        (.ite (v3.1 != 0)
          (.leaf (v3.2, v3.1))
          (.leaf (v3.2, 0)))))))))
def zdf (a0 : zb) (a1 : Int) (a2 : Int) (a3 : Int) : Option (zb × Int) := (zhr a0 a1 a2 a3).run
def zat7 : LQ (zb × Int × Int × Int) := (LQ.seq (Par.q (Par.ofLP z9)) (LQ.seq (Par.q intP) (LQ.seq (Par.q intP) (Par.q intP))))
def zqv : LQ (zb × Int) := (LQ.seq (Par.q (Par.ofLP z9)) (Par.q intP))
def zsc : SpecT := zu 0 zat7 4 [] (fun s => zhr s.1 s.2.1 s.2.2.1 s.2.2.2) default zqv 2 []
theorem z0t : zh Tryz.prog 88 (zsc).spec :=
  ze (A := za0x) za0w Facts.mix Tryz.func88 (c := za0t) (by kernel_rfl) (Lc := 0) trivial zat7 4 4 [] (fun s => zhr s.1 s.2.1 s.2.2.1 s.2.2.2) default zqv 2 [] [.pubB 8] (by decide) (by kernel_rfl) (by rfl) (by decide) (by decide) (by rfl)
    (by rintro ⟨a0, a1, a2, a3⟩; kernel_rfl)
noncomputable def za0y : Code := Tryz.f111.body.getD .skip
def za0z : List (List Nat) := [[1, 2], [1, 2, 5], [2], [1, 2], [2]]
noncomputable def za00 : EnvT := ⟨Tryz.prog, zt []⟩
theorem za01 : (za00).Ok := zd trivial
def za02 : Ann := ⟨[], [], [], za0z, []⟩
def zhs (a0 : zb) : Tr (zb) :=
  (.ite (!a0.On)
    (.leaf a0)
    (.leaf ({ (a0 : zb) with On := false, Gone := true, Out := { (a0.Out : ze0) with Closed := true } })))
def zgw (a0 : zb) : Option (zb) := (zhs a0).run
def zat8 : LQ (zb) := (Par.q (Par.ofLP z9))
def zqw : LQ (zb) := (Par.q (Par.ofLP z9))
def zsd : SpecT := zu 0 zat8 1 [] (fun s => zhs s) default zqw 1 []
theorem z0u : zh Tryz.prog 111 (zsd).spec :=
  ze (A := za02) za01 Facts.mix Tryz.func111 (c := za0y) (by kernel_rfl) (Lc := 0) trivial zat8 1 4 [] (fun s => zhs s) default zqw 1 [] [.pubB 2] (by decide) (by kernel_rfl) (by rfl) (by decide) (by decide) (by rfl)
    (by rintro a0; kernel_rfl)
end
end Go.Proofs.YtmakmlnfbdablaaGreat.Ab
