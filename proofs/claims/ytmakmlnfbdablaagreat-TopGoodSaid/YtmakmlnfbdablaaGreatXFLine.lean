/-
  The functions, each by its tree.
-/
import Derived.Test.YtmakmlnfbdablaaGreatXAbFun
import Derived.Test.YtmakmlnfbdablaaGreatXAbStructs
import Derived.Test.YtmakmlnfbdablaaGreatXFacts
namespace Go.Proofs.YtmakmlnfbdablaaGreat.Ab
open Go Go.RowKit
set_option maxRecDepth 100000
set_option linter.unusedVariables false
set_option linter.unusedSimpArgs false
noncomputable section
noncomputable def zc30 : Code := Tryz.f150.body.getD .skip
def zv30 : List (List Nat) := [[0], [0, 4], [2], [2]]
noncomputable def zy30 : EnvT := ⟨Tryz.prog, zq []⟩
theorem zh30 : (zy30).Ok := zc trivial
def za30 : Ann := ⟨[], [], [], zv30, []⟩
def zea (a0 : (List ByteArray)) : Tr ((List ByteArray)) :=
  (.split (Sl.len (.strs a0) = 0) (True)
    (.leaf [])
    (.guard ((Sl.len (.strs []) + Sl.len (.strs a0)) * 16 ≤ 140737488355328)
    (.leaf a0)))
def zcg (a0 : (List ByteArray)) : Option ((List ByteArray)) := (zea a0).run
def zr30 : LQ ((List ByteArray)) := (Par.q zao4)
def zk5 : LQ ((List ByteArray)) := (LQ.skip (LQ.const (.own 0)) (Par.q zao4))
def zmq : SpecT := zt 0 zr30 1 [] (fun s => zea s) default zk5 1 [.rows 9]
theorem zuh : zg Tryz.prog 150 (zmq).spec :=
  zd (A := za30) zh30 Facts.mix Tryz.func150 (c := zc30) (by kernel_rfl) (Lc := 0) trivial zr30 1 5 [] (fun s => zea s) default zk5 1 [.rows 9] [.nilown 2 9 (.strs [])] (by decide) (by kernel_rfl) (by rfl) (by decide) (by decide) (by rfl)
    (by rintro a0; kernel_rfl)
noncomputable def zc31 : Code := Tryz.f126.body.getD .skip
def zv31 : List (List Nat) := [[0], [0, 4], [2], [2]]
noncomputable def zy31 : EnvT := ⟨Tryz.prog, zq []⟩
theorem zh31 : (zy31).Ok := zc trivial
def za31 : Ann := ⟨[], [], [], zv31, []⟩
def zgp (a0 : (List Int)) : Tr ((List Int)) :=
  (.split (Sl.len (.ints a0) = 0) (True)
    (.leaf [])
    (.guard ((Sl.len (.ints []) + Sl.len (.ints a0)) * 8 ≤ 140737488355328)
    (.leaf a0)))
def z6 (a0 : (List Int)) : Option ((List Int)) := (zgp a0).run
def zr31 : LQ ((List Int)) := (Par.q zgz)
def zo5 : LQ ((List Int)) := (LQ.skip (LQ.const (.own 0)) (Par.q zgz))
def zj2 : SpecT := zt 0 zr31 1 [] (fun s => zgp s) default zo5 1 [.rows 3]
theorem zo6 : zg Tryz.prog 126 (zj2).spec :=
  zd (A := za31) zh31 Facts.mix Tryz.func126 (c := zc31) (by kernel_rfl) (Lc := 0) trivial zr31 1 5 [] (fun s => zgp s) default zo5 1 [.rows 3] [.nilown 2 3 (.ints [])] (by decide) (by kernel_rfl) (by rfl) (by decide) (by decide) (by rfl)
    (by rintro a0; kernel_rfl)
noncomputable def zc32 : Code := Tryz.f102.body.getD .skip
def zv32 : List (List Nat) := [[0], [0, 4], [2], [2]]
noncomputable def zy32 : EnvT := ⟨Tryz.prog, zq []⟩
theorem zh32 : (zy32).Ok := zc trivial
def za32 : Ann := ⟨[], [], [], zv32, []⟩
def zcx (a0 : (List Power)) : Tr ((List Power)) :=
  (.split (Sl.len (.powers a0) = 0) (True)
    (.leaf [])
    (.guard ((Sl.len (.powers []) + Sl.len (.powers a0)) * 16 ≤ 140737488355328)
    (.leaf a0)))
def zeo (a0 : (List Power)) : Option ((List Power)) := (zcx a0).run
def zr32 : LQ ((List Power)) := (Par.q zo)
def zil : LQ ((List Power)) := (LQ.skip (LQ.const (.own 0)) (Par.q zo))
def zjs : SpecT := zt 0 zr32 1 [] (fun s => zcx s) default zil 1 [.rows 83]
theorem zrh : zg Tryz.prog 102 (zjs).spec :=
  zd (A := za32) zh32 Facts.mix Tryz.func102 (c := zc32) (by kernel_rfl) (Lc := 0) trivial zr32 1 5 [] (fun s => zcx s) default zil 1 [.rows 83] [.nilown 2 83 (.powers [])] (by decide) (by kernel_rfl) (by rfl) (by decide) (by decide) (by rfl)
    (by rintro a0; kernel_rfl)
noncomputable def zc33 : Code := Tryz.f102.body.getD .skip
def zv33 : List (List Nat) := [[0], [0, 4], [2], [2]]
noncomputable def zy33 : EnvT := ⟨Tryz.prog, zq []⟩
theorem zh33 : (zy33).Ok := zc trivial
def za33 : Ann := ⟨[], [], [], zv33, []⟩
def zcf (a0 : (List Power)) : Tr ((List Power)) :=
  (.split (Sl.len (.powers a0) = 0) (True)
    (.leaf [])
    (.guard ((Sl.len (.powers []) + Sl.len (.powers a0)) * 16 ≤ 140737488355328)
    (.leaf a0)))
def zah (a0 : (List Power)) : Option ((List Power)) := (zcf a0).run
def zr33 : LQ ((List Power)) := (Par.q zo)
def zg1 : LQ ((List Power)) := (Par.q zo)
def zd2 : SpecT := zt 0 zr33 1 [] (fun s => zcf s) default zg1 1 []
theorem zg2 : zg Tryz.prog 102 (zd2).spec :=
  zd (A := za33) zh33 Facts.mix Tryz.func102 (c := zc33) (by kernel_rfl) (Lc := 0) trivial zr33 1 5 [] (fun s => zcf s) default zg1 1 [] [.pub 2] (by decide) (by kernel_rfl) (by rfl) (by decide) (by decide) (by rfl)
    (by rintro a0; kernel_rfl)
noncomputable def zc34 : Code := Tryz.f94.body.getD .skip
def zv34 : List (List Nat) := [[0], [0, 4], [2], [2]]
noncomputable def zy34 : EnvT := ⟨Tryz.prog, zq []⟩
theorem zh34 : (zy34).Ok := zc trivial
def za34 : Ann := ⟨[], [], [], zv34, []⟩
def zdk (a0 : (List Wait)) : Tr ((List Wait)) :=
  (.split (Sl.len (.waits a0) = 0) (True)
    (.leaf [])
    (.guard ((Sl.len (.waits []) + Sl.len (.waits a0)) * 64 ≤ 140737488355328)
    (.leaf a0)))
def zr (a0 : (List Wait)) : Option ((List Wait)) := (zdk a0).run
def zr34 : LQ ((List Wait)) := (Par.q zmp)
def zjt : LQ ((List Wait)) := (LQ.skip (LQ.const (.own 0)) (Par.q zmp))
def zbw : SpecT := zt 0 zr34 1 [] (fun s => zdk s) default zjt 1 [.rows 98]
theorem zcy : zg Tryz.prog 94 (zbw).spec :=
  zd (A := za34) zh34 Facts.mix Tryz.func94 (c := zc34) (by kernel_rfl) (Lc := 0) trivial zr34 1 5 [] (fun s => zdk s) default zjt 1 [.rows 98] [.nilown 2 98 (.waits [])] (by decide) (by kernel_rfl) (by rfl) (by decide) (by decide) (by rfl)
    (by rintro a0; kernel_rfl)
noncomputable def zc35 : Code := Tryz.f134.body.getD .skip
def zv35 : List (List Nat) := [[0], [0, 4], [2], [2]]
noncomputable def zy35 : EnvT := ⟨Tryz.prog, zq []⟩
theorem zh35 : (zy35).Ok := zc trivial
def za35 : Ann := ⟨[], [], [], zv35, []⟩
def zcz (a0 : (List Asked)) : Tr ((List Asked)) :=
  (.split (Sl.len (.asked a0) = 0) (True)
    (.leaf [])
    (.guard ((Sl.len (.asked []) + Sl.len (.asked a0)) * 88 ≤ 140737488355328)
    (.leaf a0)))
def zan (a0 : (List Asked)) : Option ((List Asked)) := (zcz a0).run
def zr35 : LQ ((List Asked)) := (Par.q zey)
def zim : LQ ((List Asked)) := (LQ.skip (LQ.const (.own 0)) (Par.q zey))
def zez : SpecT := zt 0 zr35 1 [] (fun s => zcz s) default zim 1 [.rows 101]
theorem zin : zg Tryz.prog 134 (zez).spec :=
  zd (A := za35) zh35 Facts.mix Tryz.func134 (c := zc35) (by kernel_rfl) (Lc := 0) trivial zr35 1 5 [] (fun s => zcz s) default zim 1 [.rows 101] [.nilown 2 101 (.asked [])] (by decide) (by kernel_rfl) (by rfl) (by decide) (by decide) (by rfl)
    (by rintro a0; kernel_rfl)
noncomputable def zc36 : Code := Tryz.f135.body.getD .skip
def zv36 : List (List Nat) := [[0], [0, 4], [2], [2]]
noncomputable def zy36 : EnvT := ⟨Tryz.prog, zq []⟩
theorem zh36 : (zy36).Ok := zc trivial
def za36 : Ann := ⟨[], [], [], zv36, []⟩
def zcl (a0 : (List Packet)) : Tr ((List Packet)) :=
  (.split (Sl.len (.packets a0) = 0) (True)
    (.leaf [])
    (.guard ((Sl.len (.packets []) + Sl.len (.packets a0)) * 80 ≤ 140737488355328)
    (.leaf a0)))
def zbf (a0 : (List Packet)) : Option ((List Packet)) := (zcl a0).run
def zr36 : LQ ((List Packet)) := (Par.q zdy)
def zhw : LQ ((List Packet)) := (LQ.skip (LQ.const (.own 0)) (Par.q zdy))
def zio : SpecT := zt 0 zr36 1 [] (fun s => zcl s) default zhw 1 [.rows 79]
theorem zpz : zg Tryz.prog 135 (zio).spec :=
  zd (A := za36) zh36 Facts.mix Tryz.func135 (c := zc36) (by kernel_rfl) (Lc := 0) trivial zr36 1 5 [] (fun s => zcl s) default zhw 1 [.rows 79] [.nilown 2 79 (.packets [])] (by decide) (by kernel_rfl) (by rfl) (by decide) (by decide) (by rfl)
    (by rintro a0; kernel_rfl)
noncomputable def zc37 : Code := Tryz.f103.body.getD .skip
def zv37 : List (List Nat) := [[0], [0, 4], [2], [2]]
noncomputable def zy37 : EnvT := ⟨Tryz.prog, zq []⟩
theorem zh37 : (zy37).Ok := zc trivial
def za37 : Ann := ⟨[], [], [], zv37, []⟩
def zdl (a0 : (List Ripe)) : Tr ((List Ripe)) :=
  (.split (Sl.len (.ripes a0) = 0) (True)
    (.leaf [])
    (.guard ((Sl.len (.ripes []) + Sl.len (.ripes a0)) * 16 ≤ 140737488355328)
    (.leaf a0)))
def ze0 (a0 : (List Ripe)) : Option ((List Ripe)) := (zdl a0).run
def zr37 : LQ ((List Ripe)) := (Par.q zxb)
def zju : LQ ((List Ripe)) := (LQ.skip (LQ.const (.own 0)) (Par.q zxb))
def zj3 : SpecT := zt 0 zr37 1 [] (fun s => zdl s) default zju 1 [.rows 103]
theorem zrx : zg Tryz.prog 103 (zj3).spec :=
  zd (A := za37) zh37 Facts.mix Tryz.func103 (c := zc37) (by kernel_rfl) (Lc := 0) trivial zr37 1 5 [] (fun s => zdl s) default zju 1 [.rows 103] [.nilown 2 103 (.ripes [])] (by decide) (by kernel_rfl) (by rfl) (by decide) (by decide) (by rfl)
    (by rintro a0; kernel_rfl)
noncomputable def zc39 : Code := Tryz.f72.body.getD .skip
def zv39 : List (List Nat) := [[0], [2]]
noncomputable def zy39 : EnvT := ⟨Tryz.prog, zq []⟩
theorem zh39 : (zy39).Ok := zc trivial
def za39 : Ann := ⟨[], [], [], zv39, []⟩
def zoe (a0 : Int) : Tr (Bool) :=
  (.leaf (decide (a0 < 0)))
def zxl (a0 : Int) : Option (Bool) := (zoe a0).run
def zr39 : LQ (Int) := (Par.q intP)
def zxm : LQ (Bool) := (Par.q boolP)
def zz8 : SpecT := zt 0 zr39 1 [] (fun s => zoe s) default zxm 1 []
theorem z6i : zg Tryz.prog 72 (zz8).spec :=
  zd (A := za39) zh39 Facts.mix Tryz.func72 (c := zc39) (by kernel_rfl) (Lc := 0) trivial zr39 1 2 [] (fun s => zoe s) default zxm 1 [] [] (by decide) (by kernel_rfl) (by rfl) (by decide) (by decide) (by rfl)
    (by rintro a0; kernel_rfl)
noncomputable def zc40 : Code := Tryz.f90.body.getD .skip
def zv40 : List (List Nat) := [[0, 1], [0, 1, 7, 8], [0, 1, 7, 8, 9], [0, 1, 5, 7, 8], [0, 1, 5, 7, 8, 16], [4], [0, 1, 7, 8], [4]]
noncomputable def zy40 : EnvT := ⟨Tryz.prog, zq [(72, zz8)]⟩
theorem zh40 : (zy40).Ok := zc ⟨z6i, trivial⟩
def zcm (x0 : (List Int)) (x1 : Int) (x2 : Int) : Tr (((List Int) × Int × Int) ⊕ ((Int) ⊕ (Unit))) :=
  (.ite (decide (x2 < x1))
    (.guard ((0 : Int) ≤ x2 ∧ x2 < ((Sl.len (.ints x0) : Nat) : Int))
    (.bind (zxl (x0.getD x2.toNat 0)) fun v1 =>
    (.ite (v1)
      (.leaf (.inr (.inl x2)))
      (.leaf (.inl (x0, x1, IntKind.i64.wrap (x2 + 1)))))))
    (.leaf (.inr (.inr ()))))
def zhx (x0 : (List Int)) (x1 : Int) (x2 : Int) : Option ((Int) ⊕ (Unit)) := zel (fun s : (List Int) × Int × Int => (zcm s.1 s.2.1 s.2.2).run) (x0, x1, x2)
def zaxk : Ann := ⟨[], [], [], zv40, []⟩
def zaxl : EndD ((List Int) × Int × Int) := ⟨(LQ.seq (Par.q zgz) (LQ.skip (LQ.const (.fn 72 [])) (LQ.seq (Par.q intP) (Par.q intP)))), ⟨[0, 1, 7, 8], [.pub 0, .nilsl 0 (.ints [])]⟩, []⟩
def zao5 : EndD (Int) := ⟨(Par.q intP), ⟨[4], []⟩, []⟩
def zao6 : EndD (Unit) := ⟨LQ.nil, ⟨[], []⟩, []⟩
def zasz : St → Option LR := L2 19 2 0 zaxl .ret zao5 (.exit 0) zao6 (fun s => zcm s.1 s.2.1 s.2.2)
theorem zaxm : zu (zy40).env 0 (sub zc40 [0, 1, 0, 1]) zasz :=
  zra (A := zaxk) zh40 Facts.mix trivial (k := zcw (sub zc40 [0, 1, 0, 1])) (by kernel_rfl) rfl rfl (by rintro ⟨x0, x1, x2⟩; kernel_rfl)
def za40 : Ann := ⟨[([0, 1, 0, 1], zasz)], [], [], zv40, []⟩
def zch (a0 : (List Int)) : Tr (Int) :=
  (.two (zhx a0 ((a0.length : Nat) : Int) 0) (fun v2 =>
    (.leaf v2)) (fun v3 =>
    (.leaf (-1))))
def zfr (a0 : (List Int)) : Option (Int) := (zch a0).run
def zr40 : LQ ((List Int)) := (LQ.skipR (Par.q zgz) (LQ.const (.fn 72 [])))
def zj4 : LQ (Int) := (Par.q intP)
def zk6 : SpecT := zt 0 zr40 2 [] (fun s => zch s) default zj4 1 []
theorem zta : zg Tryz.prog 90 (zk6).spec :=
  zd (A := za40) zh40 Facts.mix Tryz.func90 (c := zc40) (by kernel_rfl) (Lc := 0) ⟨zaxm, trivial⟩ zr40 2 2 [] (fun s => zch s) default zj4 1 [] [] (by decide) (by kernel_rfl) (by rfl) (by decide) (by decide) (by rfl)
    (by rintro a0; kernel_rfl)
noncomputable def zc41 : Code := Tryz.f71.body.getD .skip
def zv41 : List (List Nat) := [[0, 1], [4]]
noncomputable def zy41 : EnvT := ⟨Tryz.prog, zq [(90, zk6)]⟩
theorem zh41 : (zy41).Ok := zc ⟨zta, trivial⟩
def za41 : Ann := ⟨[], [], [], zv41, []⟩
def zcn (a0 : (List Int)) : Tr (Bool) :=
  (.bind (zfr a0) fun v1 =>
  (.leaf (decide (v1 ≥ 0))))
def zd3 (a0 : (List Int)) : Option (Bool) := (zcn a0).run
def zr41 : LQ ((List Int)) := (LQ.skipR (Par.q zgz) (LQ.const (.fn 72 [])))
def zhy : LQ (Bool) := (Par.q boolP)
def ziq : SpecT := zt 0 zr41 2 [] (fun s => zcn s) default zhy 1 []
theorem zp0 : zg Tryz.prog 71 (ziq).spec :=
  zd (A := za41) zh41 Facts.mix Tryz.func71 (c := zc41) (by kernel_rfl) (Lc := 0) trivial zr41 2 2 [] (fun s => zcn s) default zhy 1 [] [] (by decide) (by kernel_rfl) (by rfl) (by decide) (by decide) (by rfl)
    (by rintro a0; kernel_rfl)
noncomputable def zc42 : Code := Tryz.f52.body.getD .skip
def zv42 : List (List Nat) := [[1], [1, 28], [2], [2]]
noncomputable def zy42 : EnvT := ⟨Tryz.prog, zq [(71, ziq)]⟩
theorem zh42 : (zy42).Ok := zc ⟨zp0, trivial⟩
def za42 : Ann := ⟨[], [], [], zv42, []⟩
def ztb (a0 : zes) : Tr (Bool) :=
  (.ite ((((((a0.Said.length : Nat) : Int) != ((a0.Due.length : Nat) : Int)) || (decide (((a0.Said.length : Nat) : Int) > 400))) || (decide (a0.Got < 0))) || (decide (a0.Got > ((a0.Said.length : Nat) : Int))))
    (.leaf false)
    (.bind (zd3 a0.Due) fun v1 =>
    (.leaf (!v1))))
def zeb (a0 : zes) : Option (Bool) := (ztb a0).run
def zr42 : LQ (zes) := (Par.q (Par.ofLP lineL))
def z17 : LQ (Bool) := (Par.q boolP)
def zlf : SpecT := zt 0 zr42 1 [] (fun s => ztb s) default z17 1 []
theorem zmr : zg Tryz.prog 52 (zlf).spec :=
  zd (A := za42) zh42 Facts.mix Tryz.func52 (c := zc42) (by kernel_rfl) (Lc := 0) trivial zr42 1 3 [] (fun s => ztb s) default z17 1 [] [] (by decide) (by kernel_rfl) (by rfl) (by decide) (by decide) (by rfl)
    (by rintro a0; kernel_rfl)
noncomputable def zc43 : Code := Tryz.f133.body.getD .skip
def zv43 : List (List Nat) := [[1, 2, 3, 6], [1, 2, 3, 6, 8], [6, 7], [1, 2, 3, 6, 17], [6, 7], [1, 2, 3, 6, 21], [6, 7], [3, 6], [6, 7]]
noncomputable def zy43 : EnvT := ⟨Tryz.prog, zq [(52, zlf), (150, zmq), (126, zj2)]⟩
theorem zh43 : (zy43).Ok := zc ⟨zmr, zuh, zo6, trivial⟩
def za43 : Ann := ⟨[], [], [], zv43, []⟩
def zwo (a0 : zes) (a1 : ByteArray) (a2 : Int) : Tr (zes × Int) :=
  (.bind (zeb a0) fun v1 =>
  (.ite ((!v1) || (decide (a2 < 0)))
    (.leaf (a0, 2))
    (.ite (a0.Closed)
      (.leaf (a0, 11))
      (.ite (decide (((a0.Said.length : Nat) : Int) ≥ 400))
        (.leaf (a0, 6))
        (.guard ((zcg a0.Said).isSome = true)
        (.guard ((Sl.len (.strs ((zcg a0.Said).getD default)) + Sl.len (.strs [a1])) * 16 ≤ 140737488355328)
        (.guard ((z6 a0.Due).isSome = true)
        (.guard ((Sl.len (.ints ((z6 a0.Due).getD default)) + Sl.len (.ints [a2])) * 8 ≤ 140737488355328)
        (.leaf ({ (a0 : zes) with Said := ((zcg a0.Said).getD default) ++ [a1], Due := ((z6 a0.Due).getD default) ++ [a2] }, 0))))))))))
def ztc (a0 : zes) (a1 : ByteArray) (a2 : Int) : Option (zes × Int) := (zwo a0 a1 a2).run
def zr43 : LQ (zes × ByteArray × Int) := (LQ.seq (Par.q (Par.ofLP lineL)) (LQ.seq (Par.q strP) (Par.q intP)))
def z4d : LQ (zes × Int) := (LQ.seq (Par.q (Par.ofLP lineL)) (Par.q intP))
def z1c : SpecT := zt 0 zr43 3 [] (fun s => zwo s.1 s.2.1 s.2.2) default z4d 2 []
theorem z4e : zg Tryz.prog 133 (z1c).spec :=
  zd (A := za43) zh43 Facts.mix Tryz.func133 (c := zc43) (by kernel_rfl) (Lc := 0) trivial zr43 3 10 [] (fun s => zwo s.1 s.2.1 s.2.2) default z4d 2 [] [.pubB 6] (by decide) (by kernel_rfl) (by rfl) (by decide) (by decide) (by rfl)
    (by rintro ⟨a0, a1, a2⟩; kernel_rfl)
noncomputable def zc44 : Code := Tryz.f106.body.getD .skip
def zv44 : List (List Nat) := [[1, 2, 3, 4, 5, 10], [1, 2, 3, 4, 5, 10, 12], [10, 11], [1, 2, 3, 4, 5, 10, 17], [10, 11], [1, 2, 3, 4, 5, 10, 21], [10, 11], [1, 4, 5, 10, 28], [10, 11], [1, 5, 10, 50], [10, 11], [5, 10], [10, 11]]
noncomputable def zy44 : EnvT := ⟨Tryz.prog, zq [(52, zlf)]⟩
theorem zh44 : (zy44).Ok := zc ⟨zmr, trivial⟩
def za44 : Ann := ⟨[], [], [], zv44, []⟩
def zly (a0 : zes) (a1 : Int) (a2 : ByteArray) (a3 : Int) (a4 : Int) : Tr (zes × Int) :=
  (.bind (zeb a0) fun v1 =>
  (.ite (!v1)
    (.leaf (a0, 2))
    (.ite (a0.Closed)
      (.leaf (a0, 11))
      (.ite (a1 != (IntKind.i64.wrap (a0.Got + 1)))
        (.leaf (a0, 10))
        (.guard ((((decide (a1 > a3)) || (decide (a1 > ((a0.Said.length : Nat) : Int)))) = false → ((0 : Int) ≤ (IntKind.i64.wrap (a1 - 1)) ∧ (IntKind.i64.wrap (a1 - 1)) < ((Sl.len (.strs a0.Said) : Nat) : Int)) ∧ True))
        (.ite (((decide (a1 > a3)) || (decide (a1 > ((a0.Said.length : Nat) : Int)))) || (!((a0.Said.getD ((IntKind.i64.wrap (a1 - 1)).toNat) .empty).toList == a2.toList)))
          (.leaf (a0, 9))
          (.guard ((0 : Int) ≤ (IntKind.i64.wrap (a1 - 1)) ∧ (IntKind.i64.wrap (a1 - 1)) < ((Sl.len (.ints a0.Due) : Nat) : Int))
          (.ite (decide (a4 ≥ (a0.Due.getD ((IntKind.i64.wrap (a1 - 1)).toNat) 0)))
            (.leaf (a0, 12))
            (.leaf ({ (a0 : zes) with Got := a1 }, 0))))))))))
def zh (a0 : zes) (a1 : Int) (a2 : ByteArray) (a3 : Int) (a4 : Int) : Option (zes × Int) := (zly a0 a1 a2 a3 a4).run
def zr44 : LQ (zes × Int × ByteArray × Int × Int) := (LQ.seq (Par.q (Par.ofLP lineL)) (LQ.seq (Par.q intP) (LQ.seq (Par.q strP) (LQ.seq (Par.q intP) (Par.q intP)))))
def zu2 : LQ (zes × Int) := (LQ.seq (Par.q (Par.ofLP lineL)) (Par.q intP))
def zxn : SpecT := zt 0 zr44 5 [] (fun s => zly s.1 s.2.1 s.2.2.1 s.2.2.2.1 s.2.2.2.2) default zu2 2 []
theorem z4f : zg Tryz.prog 106 (zxn).spec :=
  zd (A := za44) zh44 Facts.mix Tryz.func106 (c := zc44) (by kernel_rfl) (Lc := 0) trivial zr44 5 4 [] (fun s => zly s.1 s.2.1 s.2.2.1 s.2.2.2.1 s.2.2.2.2) default zu2 2 [] [.pubB 10] (by decide) (by kernel_rfl) (by rfl) (by decide) (by decide) (by rfl)
    (by rintro ⟨a0, a1, a2, a3, a4⟩; kernel_rfl)
noncomputable def zc45 : Code := Tryz.f109.body.getD .skip
def zv45 : List (List Nat) := [[1, 2, 3, 4, 8], [1, 2, 3, 4, 8, 10], [8, 9], [1, 2, 3, 4, 8, 15], [8, 9], [1, 2, 3, 4, 8, 19], [8, 9], [1, 2, 4, 8, 30], [8, 9], [4, 8, 35], [8, 9], [4, 8], [8, 9]]
noncomputable def zy45 : EnvT := ⟨Tryz.prog, zq [(52, zlf)]⟩
theorem zh45 : (zy45).Ok := zc ⟨zmr, trivial⟩
def za45 : Ann := ⟨[], [], [], zv45, []⟩
def zof (a0 : zes) (a1 : Int) (a2 : Int) (a3 : Int) : Tr (zes × Int) :=
  (.bind (zeb a0) fun v1 =>
  (.ite (!v1)
    (.leaf (a0, 2))
    (.ite (a0.Closed)
      (.leaf (a0, 11))
      (.ite ((decide (a1 < 1)) || (decide (a1 > ((a0.Said.length : Nat) : Int))))
        (.leaf (a0, 4))
        (.ite (decide (a1 ≤ a3))
          (.leaf (a0, 5))
          (.guard ((0 : Int) ≤ (IntKind.i64.wrap (a1 - 1)) ∧ (IntKind.i64.wrap (a1 - 1)) < ((Sl.len (.ints a0.Due) : Nat) : Int))
          (.ite (decide (a2 < (a0.Due.getD ((IntKind.i64.wrap (a1 - 1)).toNat) 0)))
            (.leaf (a0, 13))
            (.leaf ({ (a0 : zes) with Closed := true }, 0)))))))))
def zlz (a0 : zes) (a1 : Int) (a2 : Int) (a3 : Int) : Option (zes × Int) := (zof a0 a1 a2 a3).run
def zr45 : LQ (zes × Int × Int × Int) := (LQ.seq (Par.q (Par.ofLP lineL)) (LQ.seq (Par.q intP) (LQ.seq (Par.q intP) (Par.q intP))))
def zxo : LQ (zes × Int) := (LQ.seq (Par.q (Par.ofLP lineL)) (Par.q intP))
def zz9 : SpecT := zt 0 zr45 4 [] (fun s => zof s.1 s.2.1 s.2.2.1 s.2.2.2) default zxo 2 []
theorem z6j : zg Tryz.prog 109 (zz9).spec :=
  zd (A := za45) zh45 Facts.mix Tryz.func109 (c := zc45) (by kernel_rfl) (Lc := 0) trivial zr45 4 4 [] (fun s => zof s.1 s.2.1 s.2.2.1 s.2.2.2) default zxo 2 [] [.pubB 8] (by decide) (by kernel_rfl) (by rfl) (by decide) (by decide) (by rfl)
    (by rintro ⟨a0, a1, a2, a3⟩; kernel_rfl)
end
end Go.Proofs.YtmakmlnfbdablaaGreat.Ab
