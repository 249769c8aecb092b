/-
  The functions, each by its tree.
-/
import Derived.Test.YtmakmlnfbdablaaGreatXAbFun
import Derived.Test.YtmakmlnfbdablaaGreatXAbStructs
import Derived.Test.YtmakmlnfbdablaaGreatXFacts
namespace Go.Proofs.YtmakmlnfbdablaaGreat.Ab
open Go Go.RowKit
set_option maxRecDepth 100000
set_option linter.unusedVariables false
set_option linter.unusedSimpArgs false
noncomputable section
noncomputable def zc30 : Code := Tryz.f150.body.getD .skip
def zv30 : List (List Nat) := [[0], [0, 4], [2], [2]]
noncomputable def zy30 : EnvT := ⟨Tryz.prog, zt []⟩
theorem zh30 : (zy30).Ok := zd trivial
def za30 : Ann := ⟨[], [], [], zv30, []⟩
def zej (a0 : (List ByteArray)) : Tr ((List ByteArray)) :=
  (.split (Sl.len (.strs a0) = 0) (True)
    (.leaf [])
    (.guard ((Sl.len (.strs []) + Sl.len (.strs a0)) * 16 ≤ 140737488355328)
    (.leaf a0)))
def zcj (a0 : (List ByteArray)) : Option ((List ByteArray)) := (zej a0).run
def zr30 : LQ ((List ByteArray)) := (Par.q zapg)
def zla : LQ ((List ByteArray)) := (LQ.skip (LQ.const (.own 0)) (Par.q zapg))
def zmv : SpecT := zu 0 zr30 1 [] (fun s => zej s) default zla 1 [.rows 9]
theorem zui : zh Tryz.prog 150 (zmv).spec :=
  ze (A := za30) zh30 Facts.mix Tryz.func150 (c := zc30) (by kernel_rfl) (Lc := 0) trivial zr30 1 5 [] (fun s => zej s) default zla 1 [.rows 9] [.nilown 2 9 (.strs [])] (by decide) (by kernel_rfl) (by rfl) (by decide) (by decide) (by rfl)
    (by rintro a0; kernel_rfl)
noncomputable def zc31 : Code := Tryz.f126.body.getD .skip
def zv31 : List (List Nat) := [[0], [0, 4], [2], [2]]
noncomputable def zy31 : EnvT := ⟨Tryz.prog, zt []⟩
theorem zh31 : (zy31).Ok := zd trivial
def za31 : Ann := ⟨[], [], [], zv31, []⟩
def zgt (a0 : (List Int)) : Tr ((List Int)) :=
  (.split (Sl.len (.ints a0) = 0) (True)
    (.leaf [])
    (.guard ((Sl.len (.ints []) + Sl.len (.ints a0)) * 8 ≤ 140737488355328)
    (.leaf a0)))
def z8 (a0 : (List Int)) : Option ((List Int)) := (zgt a0).run
def zr31 : LQ ((List Int)) := (Par.q zg1)
def zo8 : LQ ((List Int)) := (LQ.skip (LQ.const (.own 0)) (Par.q zg1))
def zj7 : SpecT := zu 0 zr31 1 [] (fun s => zgt s) default zo8 1 [.rows 3]
theorem zo9 : zh Tryz.prog 126 (zj7).spec :=
  ze (A := za31) zh31 Facts.mix Tryz.func126 (c := zc31) (by kernel_rfl) (Lc := 0) trivial zr31 1 5 [] (fun s => zgt s) default zo8 1 [.rows 3] [.nilown 2 3 (.ints [])] (by decide) (by kernel_rfl) (by rfl) (by decide) (by decide) (by rfl)
    (by rintro a0; kernel_rfl)
noncomputable def zc32 : Code := Tryz.f102.body.getD .skip
def zv32 : List (List Nat) := [[0], [0, 4], [2], [2]]
noncomputable def zy32 : EnvT := ⟨Tryz.prog, zt []⟩
theorem zh32 : (zy32).Ok := zd trivial
def za32 : Ann := ⟨[], [], [], zv32, []⟩
def zdb (a0 : (List Power)) : Tr ((List Power)) :=
  (.split (Sl.len (.powers a0) = 0) (True)
    (.leaf [])
    (.guard ((Sl.len (.powers []) + Sl.len (.powers a0)) * 16 ≤ 140737488355328)
    (.leaf a0)))
def zew (a0 : (List Power)) : Option ((List Power)) := (zdb a0).run
def zr32 : LQ ((List Power)) := (Par.q zp)
def zio : LQ ((List Power)) := (LQ.skip (LQ.const (.own 0)) (Par.q zp))
def zjv : SpecT := zu 0 zr32 1 [] (fun s => zdb s) default zio 1 [.rows 83]
theorem zrf : zh Tryz.prog 102 (zjv).spec :=
  ze (A := za32) zh32 Facts.mix Tryz.func102 (c := zc32) (by kernel_rfl) (Lc := 0) trivial zr32 1 5 [] (fun s => zdb s) default zio 1 [.rows 83] [.nilown 2 83 (.powers [])] (by decide) (by kernel_rfl) (by rfl) (by decide) (by decide) (by rfl)
    (by rintro a0; kernel_rfl)
noncomputable def zc33 : Code := Tryz.f102.body.getD .skip
def zv33 : List (List Nat) := [[0], [0, 4], [2], [2]]
noncomputable def zy33 : EnvT := ⟨Tryz.prog, zt []⟩
theorem zh33 : (zy33).Ok := zd trivial
def za33 : Ann := ⟨[], [], [], zv33, []⟩
def zci (a0 : (List Power)) : Tr ((List Power)) :=
  (.split (Sl.len (.powers a0) = 0) (True)
    (.leaf [])
    (.guard ((Sl.len (.powers []) + Sl.len (.powers a0)) * 16 ≤ 140737488355328)
    (.leaf a0)))
def zaj (a0 : (List Power)) : Option ((List Power)) := (zci a0).run
def zr33 : LQ ((List Power)) := (Par.q zp)
def zg3 : LQ ((List Power)) := (Par.q zp)
def zd9 : SpecT := zu 0 zr33 1 [] (fun s => zci s) default zg3 1 []
theorem zg4 : zh Tryz.prog 102 (zd9).spec :=
  ze (A := za33) zh33 Facts.mix Tryz.func102 (c := zc33) (by kernel_rfl) (Lc := 0) trivial zr33 1 5 [] (fun s => zci s) default zg3 1 [] [.pub 2] (by decide) (by kernel_rfl) (by rfl) (by decide) (by decide) (by rfl)
    (by rintro a0; kernel_rfl)
noncomputable def zc34 : Code := Tryz.f94.body.getD .skip
def zv34 : List (List Nat) := [[0], [0, 4], [2], [2]]
noncomputable def zy34 : EnvT := ⟨Tryz.prog, zt []⟩
theorem zh34 : (zy34).Ok := zd trivial
def za34 : Ann := ⟨[], [], [], zv34, []⟩
def zdp (a0 : (List Wait)) : Tr ((List Wait)) :=
  (.split (Sl.len (.waits a0) = 0) (True)
    (.leaf [])
    (.guard ((Sl.len (.waits []) + Sl.len (.waits a0)) * 64 ≤ 140737488355328)
    (.leaf a0)))
def zr (a0 : (List Wait)) : Option ((List Wait)) := (zdp a0).run
def zr34 : LQ ((List Wait)) := (Par.q zmu)
def zjw : LQ ((List Wait)) := (LQ.skip (LQ.const (.own 0)) (Par.q zmu))
def zb0 : SpecT := zu 0 zr34 1 [] (fun s => zdp s) default zjw 1 [.rows 98]
theorem zdc : zh Tryz.prog 94 (zb0).spec :=
  ze (A := za34) zh34 Facts.mix Tryz.func94 (c := zc34) (by kernel_rfl) (Lc := 0) trivial zr34 1 5 [] (fun s => zdp s) default zjw 1 [.rows 98] [.nilown 2 98 (.waits [])] (by decide) (by kernel_rfl) (by rfl) (by decide) (by decide) (by rfl)
    (by rintro a0; kernel_rfl)
noncomputable def zc35 : Code := Tryz.f134.body.getD .skip
def zv35 : List (List Nat) := [[0], [0, 4], [2], [2]]
noncomputable def zy35 : EnvT := ⟨Tryz.prog, zt []⟩
theorem zh35 : (zy35).Ok := zd trivial
def za35 : Ann := ⟨[], [], [], zv35, []⟩
def zdd (a0 : (List Asked)) : Tr ((List Asked)) :=
  (.split (Sl.len (.asked a0) = 0) (True)
    (.leaf [])
    (.guard ((Sl.len (.asked []) + Sl.len (.asked a0)) * 88 ≤ 140737488355328)
    (.leaf a0)))
def zap (a0 : (List Asked)) : Option ((List Asked)) := (zdd a0).run
def zr35 : LQ ((List Asked)) := (Par.q ze8)
def ziq : LQ ((List Asked)) := (LQ.skip (LQ.const (.own 0)) (Par.q ze8))
def zfa : SpecT := zu 0 zr35 1 [] (fun s => zdd s) default ziq 1 [.rows 101]
theorem zir : zh Tryz.prog 134 (zfa).spec :=
  ze (A := za35) zh35 Facts.mix Tryz.func134 (c := zc35) (by kernel_rfl) (Lc := 0) trivial zr35 1 5 [] (fun s => zdd s) default ziq 1 [.rows 101] [.nilown 2 101 (.asked [])] (by decide) (by kernel_rfl) (by rfl) (by decide) (by decide) (by rfl)
    (by rintro a0; kernel_rfl)
noncomputable def zc36 : Code := Tryz.f135.body.getD .skip
def zv36 : List (List Nat) := [[0], [0, 4], [2], [2]]
noncomputable def zy36 : EnvT := ⟨Tryz.prog, zt []⟩
theorem zh36 : (zy36).Ok := zd trivial
def za36 : Ann := ⟨[], [], [], zv36, []⟩
def zco (a0 : (List Packet)) : Tr ((List Packet)) :=
  (.split (Sl.len (.packets a0) = 0) (True)
    (.leaf [])
    (.guard ((Sl.len (.packets []) + Sl.len (.packets a0)) * 80 ≤ 140737488355328)
    (.leaf a0)))
def zbg (a0 : (List Packet)) : Option ((List Packet)) := (zco a0).run
def zr36 : LQ ((List Packet)) := (Par.q zd3)
def zhy : LQ ((List Packet)) := (LQ.skip (LQ.const (.own 0)) (Par.q zd3))
def zis : SpecT := zu 0 zr36 1 [] (fun s => zco s) default zhy 1 [.rows 79]
theorem zpz : zh Tryz.prog 135 (zis).spec :=
  ze (A := za36) zh36 Facts.mix Tryz.func135 (c := zc36) (by kernel_rfl) (Lc := 0) trivial zr36 1 5 [] (fun s => zco s) default zhy 1 [.rows 79] [.nilown 2 79 (.packets [])] (by decide) (by kernel_rfl) (by rfl) (by decide) (by decide) (by rfl)
    (by rintro a0; kernel_rfl)
noncomputable def zc37 : Code := Tryz.f103.body.getD .skip
def zv37 : List (List Nat) := [[0], [0, 4], [2], [2]]
noncomputable def zy37 : EnvT := ⟨Tryz.prog, zt []⟩
theorem zh37 : (zy37).Ok := zd trivial
def za37 : Ann := ⟨[], [], [], zv37, []⟩
def zdq (a0 : (List Ripe)) : Tr ((List Ripe)) :=
  (.split (Sl.len (.ripes a0) = 0) (True)
    (.leaf [])
    (.guard ((Sl.len (.ripes []) + Sl.len (.ripes a0)) * 16 ≤ 140737488355328)
    (.leaf a0)))
def zfb (a0 : (List Ripe)) : Option ((List Ripe)) := (zdq a0).run
def zr37 : LQ ((List Ripe)) := (Par.q zxi)
def zjx : LQ ((List Ripe)) := (LQ.skip (LQ.const (.own 0)) (Par.q zxi))
def zj8 : SpecT := zu 0 zr37 1 [] (fun s => zdq s) default zjx 1 [.rows 103]
theorem zrw : zh Tryz.prog 103 (zj8).spec :=
  ze (A := za37) zh37 Facts.mix Tryz.func103 (c := zc37) (by kernel_rfl) (Lc := 0) trivial zr37 1 5 [] (fun s => zdq s) default zjx 1 [.rows 103] [.nilown 2 103 (.ripes [])] (by decide) (by kernel_rfl) (by rfl) (by decide) (by decide) (by rfl)
    (by rintro a0; kernel_rfl)
noncomputable def zc39 : Code := Tryz.f72.body.getD .skip
def zv39 : List (List Nat) := [[0], [2]]
noncomputable def zy39 : EnvT := ⟨Tryz.prog, zt []⟩
theorem zh39 : (zy39).Ok := zd trivial
def za39 : Ann := ⟨[], [], [], zv39, []⟩
def zom (a0 : Int) : Tr (Bool) :=
  (.leaf (decide (a0 < 0)))
def zxs (a0 : Int) : Option (Bool) := (zom a0).run
def zr39 : LQ (Int) := (Par.q intP)
def zxt : LQ (Bool) := (Par.q boolP)
def z0h : SpecT := zu 0 zr39 1 [] (fun s => zom s) default zxt 1 []
theorem z6m : zh Tryz.prog 72 (z0h).spec :=
  ze (A := za39) zh39 Facts.mix Tryz.func72 (c := zc39) (by kernel_rfl) (Lc := 0) trivial zr39 1 2 [] (fun s => zom s) default zxt 1 [] [] (by decide) (by kernel_rfl) (by rfl) (by decide) (by decide) (by rfl)
    (by rintro a0; kernel_rfl)
noncomputable def zc40 : Code := Tryz.f90.body.getD .skip
def zv40 : List (List Nat) := [[0, 1], [0, 1, 7, 8], [0, 1, 7, 8, 9], [0, 1, 5, 7, 8], [0, 1, 5, 7, 8, 16], [4], [0, 1, 7, 8], [4]]
noncomputable def zy40 : EnvT := ⟨Tryz.prog, zt [(72, z0h)]⟩
theorem zh40 : (zy40).Ok := zd ⟨z6m, trivial⟩
def zcp (x0 : (List Int)) (x1 : Int) (x2 : Int) : Tr (((List Int) × Int × Int) ⊕ ((Int) ⊕ (Unit))) :=
  (.ite (decide (x2 < x1))
    (.guard ((0 : Int) ≤ x2 ∧ x2 < ((Sl.len (.ints x0) : Nat) : Int))
    (.bind (zxs (x0.getD x2.toNat 0)) fun v1 =>
    (.ite (v1)
      (.leaf (.inr (.inl x2)))
      (.leaf (.inl (x0, x1, IntKind.i64.wrap (x2 + 1)))))))
    (.leaf (.inr (.inr ()))))
def zhz (x0 : (List Int)) (x1 : Int) (x2 : Int) : Option ((Int) ⊕ (Unit)) := ze1 (fun s : (List Int) × Int × Int => (zcp s.1 s.2.1 s.2.2).run) (x0, x1, x2)
def zaxs : Ann := ⟨[], [], [], zv40, []⟩
def zaxt : EndD ((List Int) × Int × Int) := ⟨(LQ.seq (Par.q zg1) (LQ.skip (LQ.const (.fn 72 [])) (LQ.seq (Par.q intP) (Par.q intP)))), ⟨[0, 1, 7, 8], [.pub 0, .nilsl 0 (.ints [])]⟩, []⟩
def zaph : EndD (Int) := ⟨(Par.q intP), ⟨[4], []⟩, []⟩
def zapi : EndD (Unit) := ⟨LQ.nil, ⟨[], []⟩, []⟩
def zatb : St → Option LR := L2 19 2 0 zaxt .ret zaph (.exit 0) zapi (fun s => zcp s.1 s.2.1 s.2.2)
theorem zaxu : zv (zy40).env 0 (sub zc40 [0, 1, 0, 1]) zatb :=
  zs3 (A := zaxs) zh40 Facts.mix trivial (k := zdk (sub zc40 [0, 1, 0, 1])) (by kernel_rfl) rfl rfl (by rintro ⟨x0, x1, x2⟩; kernel_rfl)
def za40 : Ann := ⟨[([0, 1, 0, 1], zatb)], [], [], zv40, []⟩
def zck (a0 : (List Int)) : Tr (Int) :=
  (.two (zhz a0 ((a0.length : Nat) : Int) 0) (fun v2 =>
    (.leaf v2)) (fun v3 =>
    (.leaf (-1))))
def zf3 (a0 : (List Int)) : Option (Int) := (zck a0).run
def zr40 : LQ ((List Int)) := (LQ.skipR (Par.q zg1) (LQ.const (.fn 72 [])))
def zj9 : LQ (Int) := (Par.q intP)
def zlb : SpecT := zu 0 zr40 2 [] (fun s => zck s) default zj9 1 []
theorem zs9 : zh Tryz.prog 90 (zlb).spec :=
  ze (A := za40) zh40 Facts.mix Tryz.func90 (c := zc40) (by kernel_rfl) (Lc := 0) ⟨zaxu, trivial⟩ zr40 2 2 [] (fun s => zck s) default zj9 1 [] [] (by decide) (by kernel_rfl) (by rfl) (by decide) (by decide) (by rfl)
    (by rintro a0; kernel_rfl)
noncomputable def zc41 : Code := Tryz.f71.body.getD .skip
def zv41 : List (List Nat) := [[0, 1], [4]]
noncomputable def zy41 : EnvT := ⟨Tryz.prog, zt [(90, zlb)]⟩
theorem zh41 : (zy41).Ok := zd ⟨zs9, trivial⟩
def za41 : Ann := ⟨[], [], [], zv41, []⟩
def zcq (a0 : (List Int)) : Tr (Bool) :=
  (.bind (zf3 a0) fun v1 =>
  (.leaf (decide (v1 ≥ 0))))
def zea (a0 : (List Int)) : Option (Bool) := (zcq a0).run
def zr41 : LQ ((List Int)) := (LQ.skipR (Par.q zg1) (LQ.const (.fn 72 [])))
def zia : LQ (Bool) := (Par.q boolP)
def zit : SpecT := zu 0 zr41 2 [] (fun s => zcq s) default zia 1 []
theorem zp0 : zh Tryz.prog 71 (zit).spec :=
  ze (A := za41) zh41 Facts.mix Tryz.func71 (c := zc41) (by kernel_rfl) (Lc := 0) trivial zr41 2 2 [] (fun s => zcq s) default zia 1 [] [] (by decide) (by kernel_rfl) (by rfl) (by decide) (by decide) (by rfl)
    (by rintro a0; kernel_rfl)
noncomputable def zc42 : Code := Tryz.f52.body.getD .skip
def zv42 : List (List Nat) := [[1], [1, 28], [2], [2]]
noncomputable def zy42 : EnvT := ⟨Tryz.prog, zt [(71, zit)]⟩
theorem zh42 : (zy42).Ok := zd ⟨zp0, trivial⟩
def za42 : Ann := ⟨[], [], [], zv42, []⟩
def zta (a0 : ze0) : Tr (Bool) :=
  (.ite ((((((a0.Said.length : Nat) : Int) != ((a0.Due.length : Nat) : Int)) || (decide (((a0.Said.length : Nat) : Int) > 400))) || (decide (a0.Got < 0))) || (decide (a0.Got > ((a0.Said.length : Nat) : Int))))
    (.leaf false)
    (.bind (zea a0.Due) fun v1 =>
    (.leaf (!v1))))
def zek (a0 : ze0) : Option (Bool) := (zta a0).run
def zr42 : LQ (ze0) := (Par.q (Par.ofLP lineL))
def z2f : LQ (Bool) := (Par.q boolP)
def zlm : SpecT := zu 0 zr42 1 [] (fun s => zta s) default z2f 1 []
theorem zmw : zh Tryz.prog 52 (zlm).spec :=
  ze (A := za42) zh42 Facts.mix Tryz.func52 (c := zc42) (by kernel_rfl) (Lc := 0) trivial zr42 1 3 [] (fun s => zta s) default z2f 1 [] [] (by decide) (by kernel_rfl) (by rfl) (by decide) (by decide) (by rfl)
    (by rintro a0; kernel_rfl)
noncomputable def zc43 : Code := Tryz.f133.body.getD .skip
def zv43 : List (List Nat) := [[1, 2, 3, 6], [1, 2, 3, 6, 8], [6, 7], [1, 2, 3, 6, 17], [6, 7], [1, 2, 3, 6, 21], [6, 7], [3, 6], [6, 7]]
noncomputable def zy43 : EnvT := ⟨Tryz.prog, zt [(52, zlm), (150, zmv), (126, zj7)]⟩
theorem zh43 : (zy43).Ok := zd ⟨zmw, zui, zo9, trivial⟩
def za43 : Ann := ⟨[], [], [], zv43, []⟩
def zwr (a0 : ze0) (a1 : ByteArray) (a2 : Int) : Tr (ze0 × Int) :=
  (.bind (zek a0) fun v1 =>
  (.ite ((!v1) || (decide (a2 < 0)))
    (.leaf (a0, 2))
    (.ite (a0.Closed)
      (.leaf (a0, 11))
      (.ite (decide (((a0.Said.length : Nat) : Int) ≥ 400))
        (.leaf (a0, 6))
        (.guard ((zcj a0.Said).isSome = true)
        (.guard ((Sl.len (.strs ((zcj a0.Said).getD default)) + Sl.len (.strs [a1])) * 16 ≤ 140737488355328)
        (.guard ((z8 a0.Due).isSome = true)
        (.guard ((Sl.len (.ints ((z8 a0.Due).getD default)) + Sl.len (.ints [a2])) * 8 ≤ 140737488355328)
        (.leaf ({ (a0 : ze0) with Said := ((zcj a0.Said).getD default) ++ [a1], Due := ((z8 a0.Due).getD default) ++ [a2] }, 0))))))))))
def ztb (a0 : ze0) (a1 : ByteArray) (a2 : Int) : Option (ze0 × Int) := (zwr a0 a1 a2).run
def zr43 : LQ (ze0 × ByteArray × Int) := (LQ.seq (Par.q (Par.ofLP lineL)) (LQ.seq (Par.q strP) (Par.q intP)))
def z4l : LQ (ze0 × Int) := (LQ.seq (Par.q (Par.ofLP lineL)) (Par.q intP))
def z1j : SpecT := zu 0 zr43 3 [] (fun s => zwr s.1 s.2.1 s.2.2) default z4l 2 []
theorem z4m : zh Tryz.prog 133 (z1j).spec :=
  ze (A := za43) zh43 Facts.mix Tryz.func133 (c := zc43) (by kernel_rfl) (Lc := 0) trivial zr43 3 10 [] (fun s => zwr s.1 s.2.1 s.2.2) default z4l 2 [] [.pubB 6] (by decide) (by kernel_rfl) (by rfl) (by decide) (by decide) (by rfl)
    (by rintro ⟨a0, a1, a2⟩; kernel_rfl)
noncomputable def zc44 : Code := Tryz.f106.body.getD .skip
def zv44 : List (List Nat) := [[1, 2, 3, 4, 5, 10], [1, 2, 3, 4, 5, 10, 12], [10, 11], [1, 2, 3, 4, 5, 10, 17], [10, 11], [1, 2, 3, 4, 5, 10, 21], [10, 11], [1, 4, 5, 10, 28], [10, 11], [1, 5, 10, 50], [10, 11], [5, 10], [10, 11]]
noncomputable def zy44 : EnvT := ⟨Tryz.prog, zt [(52, zlm)]⟩
theorem zh44 : (zy44).Ok := zd ⟨zmw, trivial⟩
def za44 : Ann := ⟨[], [], [], zv44, []⟩
def zl4 (a0 : ze0) (a1 : Int) (a2 : ByteArray) (a3 : Int) (a4 : Int) : Tr (ze0 × Int) :=
  (.bind (zek a0) fun v1 =>
  (.ite (!v1)
    (.leaf (a0, 2))
    (.ite (a0.Closed)
      (.leaf (a0, 11))
      (.ite (a1 != (IntKind.i64.wrap (a0.Got + 1)))
        (.leaf (a0, 10))
        (.guard ((((decide (a1 > a3)) || (decide (a1 > ((a0.Said.length : Nat) : Int)))) = false → ((0 : Int) ≤ (IntKind.i64.wrap (a1 - 1)) ∧ (IntKind.i64.wrap (a1 - 1)) < ((Sl.len (.strs a0.Said) : Nat) : Int)) ∧ True))
        (.ite (((decide (a1 > a3)) || (decide (a1 > ((a0.Said.length : Nat) : Int)))) || (!((a0.Said.getD ((IntKind.i64.wrap (a1 - 1)).toNat) .empty).toList == a2.toList)))
          (.leaf (a0, 9))
          (.guard ((0 : Int) ≤ (IntKind.i64.wrap (a1 - 1)) ∧ (IntKind.i64.wrap (a1 - 1)) < ((Sl.len (.ints a0.Due) : Nat) : Int))
          (.ite (decide (a4 ≥ (a0.Due.getD ((IntKind.i64.wrap (a1 - 1)).toNat) 0)))
            (.leaf (a0, 12))
            (.leaf ({ (a0 : ze0) with Got := a1 }, 0))))))))))
def zi (a0 : ze0) (a1 : Int) (a2 : ByteArray) (a3 : Int) (a4 : Int) : Option (ze0 × Int) := (zl4 a0 a1 a2 a3 a4).run
def zr44 : LQ (ze0 × Int × ByteArray × Int × Int) := (LQ.seq (Par.q (Par.ofLP lineL)) (LQ.seq (Par.q intP) (LQ.seq (Par.q strP) (LQ.seq (Par.q intP) (Par.q intP)))))
def zu2 : LQ (ze0 × Int) := (LQ.seq (Par.q (Par.ofLP lineL)) (Par.q intP))
def zxu : SpecT := zu 0 zr44 5 [] (fun s => zl4 s.1 s.2.1 s.2.2.1 s.2.2.2.1 s.2.2.2.2) default zu2 2 []
theorem z4n : zh Tryz.prog 106 (zxu).spec :=
  ze (A := za44) zh44 Facts.mix Tryz.func106 (c := zc44) (by kernel_rfl) (Lc := 0) trivial zr44 5 4 [] (fun s => zl4 s.1 s.2.1 s.2.2.1 s.2.2.2.1 s.2.2.2.2) default zu2 2 [] [.pubB 10] (by decide) (by kernel_rfl) (by rfl) (by decide) (by decide) (by rfl)
    (by rintro ⟨a0, a1, a2, a3, a4⟩; kernel_rfl)
noncomputable def zc45 : Code := Tryz.f109.body.getD .skip
def zv45 : List (List Nat) := [[1, 2, 3, 4, 8], [1, 2, 3, 4, 8, 10], [8, 9], [1, 2, 3, 4, 8, 15], [8, 9], [1, 2, 3, 4, 8, 19], [8, 9], [1, 2, 4, 8, 30], [8, 9], [4, 8, 35], [8, 9], [4, 8], [8, 9]]
noncomputable def zy45 : EnvT := ⟨Tryz.prog, zt [(52, zlm)]⟩
theorem zh45 : (zy45).Ok := zd ⟨zmw, trivial⟩
def za45 : Ann := ⟨[], [], [], zv45, []⟩
def zon (a0 : ze0) (a1 : Int) (a2 : Int) (a3 : Int) : Tr (ze0 × Int) :=
  (.bind (zek a0) fun v1 =>
  (.ite (!v1)
    (.leaf (a0, 2))
    (.ite (a0.Closed)
      (.leaf (a0, 11))
      (.ite ((decide (a1 < 1)) || (decide (a1 > ((a0.Said.length : Nat) : Int))))
        (.leaf (a0, 4))
        (.ite (decide (a1 ≤ a3))
          (.leaf (a0, 5))
          (.guard ((0 : Int) ≤ (IntKind.i64.wrap (a1 - 1)) ∧ (IntKind.i64.wrap (a1 - 1)) < ((Sl.len (.ints a0.Due) : Nat) : Int))
          (.ite (decide (a2 < (a0.Due.getD ((IntKind.i64.wrap (a1 - 1)).toNat) 0)))
            (.leaf (a0, 13))
            (.leaf ({ (a0 : ze0) with Closed := true }, 0)))))))))
def zl5 (a0 : ze0) (a1 : Int) (a2 : Int) (a3 : Int) : Option (ze0 × Int) := (zon a0 a1 a2 a3).run
def zr45 : LQ (ze0 × Int × Int × Int) := (LQ.seq (Par.q (Par.ofLP lineL)) (LQ.seq (Par.q intP) (LQ.seq (Par.q intP) (Par.q intP))))
def zxv : LQ (ze0 × Int) := (LQ.seq (Par.q (Par.ofLP lineL)) (Par.q intP))
def z0i : SpecT := zu 0 zr45 4 [] (fun s => zon s.1 s.2.1 s.2.2.1 s.2.2.2) default zxv 2 []
theorem z6n : zh Tryz.prog 109 (z0i).spec :=
  ze (A := za45) zh45 Facts.mix Tryz.func109 (c := zc45) (by kernel_rfl) (Lc := 0) trivial zr45 4 4 [] (fun s => zon s.1 s.2.1 s.2.2.1 s.2.2.2) default zxv 2 [] [.pubB 8] (by decide) (by kernel_rfl) (by rfl) (by decide) (by decide) (by rfl)
    (by rintro ⟨a0, a1, a2, a3⟩; kernel_rfl)
end
end Go.Proofs.YtmakmlnfbdablaaGreat.Ab
