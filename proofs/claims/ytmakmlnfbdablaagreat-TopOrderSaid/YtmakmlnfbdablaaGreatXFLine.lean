/-
  The functions, each by its tree.
-/
import Derived.Test.YtmakmlnfbdablaaGreatXAbFun
import Derived.Test.YtmakmlnfbdablaaGreatXAbStructs
import Derived.Test.YtmakmlnfbdablaaGreatXFacts
namespace Go.Proofs.YtmakmlnfbdablaaGreat.Ab
open Go Go.RowKit
set_option maxRecDepth 100000
set_option linter.unusedVariables false
set_option linter.unusedSimpArgs false
noncomputable section
noncomputable def zc30 : Code := Tryz.f150.body.getD .skip
def zv30 : List (List Nat) := [[0], [0, 4], [2], [2]]
noncomputable def zy30 : EnvT := ⟨Tryz.prog, zw []⟩
theorem zh30 : (zy30).Ok := ze trivial
def za30 : Ann := ⟨[], [], [], zv30, []⟩
def zey (a0 : (List ByteArray)) : Tr ((List ByteArray)) :=
  (.split (Sl.len (.strs a0) = 0) (True)
    (.leaf [])
    (.guard ((Sl.len (.strs []) + Sl.len (.strs a0)) * 16 ≤ 140737488355328)
    (.leaf a0)))
def zcs (a0 : (List ByteArray)) : Option ((List ByteArray)) := (zey a0).run
def zr30 : LQ ((List ByteArray)) := (Par.q zht)
def zmt : LQ ((List ByteArray)) := (LQ.skip (LQ.const (.own 0)) (Par.q zht))
def zom : SpecT := zx 0 zr30 1 [] (fun s => zey s) default zmt 1 [.rows 9]
theorem zw2 : zj Tryz.prog 150 (zom).spec :=
  zf (A := za30) zh30 Facts.mix Tryz.func150 (c := zc30) (by kernel_rfl) (Lc := 0) trivial zr30 1 5 [] (fun s => zey s) default zmt 1 [.rows 9] [.nilown 2 9 (.strs [])] (by decide) (by kernel_rfl) (by rfl) (by decide) (by decide) (by rfl)
    (by rintro a0; kernel_rfl)
noncomputable def zc31 : Code := Tryz.f126.body.getD .skip
def zv31 : List (List Nat) := [[0], [0, 4], [2], [2]]
noncomputable def zy31 : EnvT := ⟨Tryz.prog, zw []⟩
theorem zh31 : (zy31).Ok := ze trivial
def za31 : Ann := ⟨[], [], [], zv31, []⟩
def zhh (a0 : (List Int)) : Tr ((List Int)) :=
  (.split (Sl.len (.ints a0) = 0) (True)
    (.leaf [])
    (.guard ((Sl.len (.ints []) + Sl.len (.ints a0)) * 8 ≤ 140737488355328)
    (.leaf a0)))
def zaf (a0 : (List Int)) : Option ((List Int)) := (zhh a0).run
def zr31 : LQ ((List Int)) := (Par.q zhs)
def zq3 : LQ ((List Int)) := (LQ.skip (LQ.const (.own 0)) (Par.q zhs))
def zlj : SpecT := zx 0 zr31 1 [] (fun s => zhh s) default zq3 1 [.rows 3]
theorem zq4 : zj Tryz.prog 126 (zlj).spec :=
  zf (A := za31) zh31 Facts.mix Tryz.func126 (c := zc31) (by kernel_rfl) (Lc := 0) trivial zr31 1 5 [] (fun s => zhh s) default zq3 1 [.rows 3] [.nilown 2 3 (.ints [])] (by decide) (by kernel_rfl) (by rfl) (by decide) (by decide) (by rfl)
    (by rintro a0; kernel_rfl)
noncomputable def zc32 : Code := Tryz.f102.body.getD .skip
def zv32 : List (List Nat) := [[0], [0, 4], [2], [2]]
noncomputable def zy32 : EnvT := ⟨Tryz.prog, zw []⟩
theorem zh32 : (zy32).Ok := ze trivial
def za32 : Ann := ⟨[], [], [], zv32, []⟩
def zdp (a0 : (List Power)) : Tr ((List Power)) :=
  (.split (Sl.len (.powers a0) = 0) (True)
    (.leaf [])
    (.guard ((Sl.len (.powers []) + Sl.len (.powers a0)) * 16 ≤ 140737488355328)
    (.leaf a0)))
def zfc (a0 : (List Power)) : Option ((List Power)) := (zdp a0).run
def zr32 : LQ ((List Power)) := (Par.q zt)
def zjo : LQ ((List Power)) := (LQ.skip (LQ.const (.own 0)) (Par.q zt))
def zk4 : SpecT := zx 0 zr32 1 [] (fun s => zdp s) default zjo 1 [.rows 83]
theorem zto : zj Tryz.prog 102 (zk4).spec :=
  zf (A := za32) zh32 Facts.mix Tryz.func102 (c := zc32) (by kernel_rfl) (Lc := 0) trivial zr32 1 5 [] (fun s => zdp s) default zjo 1 [.rows 83] [.nilown 2 83 (.powers [])] (by decide) (by kernel_rfl) (by rfl) (by decide) (by decide) (by rfl)
    (by rintro a0; kernel_rfl)
noncomputable def zc33 : Code := Tryz.f102.body.getD .skip
def zv33 : List (List Nat) := [[0], [0, 4], [2], [2]]
noncomputable def zy33 : EnvT := ⟨Tryz.prog, zw []⟩
theorem zh33 : (zy33).Ok := ze trivial
def za33 : Ann := ⟨[], [], [], zv33, []⟩
def zcr (a0 : (List Power)) : Tr ((List Power)) :=
  (.split (Sl.len (.powers a0) = 0) (True)
    (.leaf [])
    (.guard ((Sl.len (.powers []) + Sl.len (.powers a0)) * 16 ≤ 140737488355328)
    (.leaf a0)))
def zar (a0 : (List Power)) : Option ((List Power)) := (zcr a0).run
def zr33 : LQ ((List Power)) := (Par.q zt)
def zhv : LQ ((List Power)) := (Par.q zt)
def zep : SpecT := zx 0 zr33 1 [] (fun s => zcr s) default zhv 1 []
theorem zhw : zj Tryz.prog 102 (zep).spec :=
  zf (A := za33) zh33 Facts.mix Tryz.func102 (c := zc33) (by kernel_rfl) (Lc := 0) trivial zr33 1 5 [] (fun s => zcr s) default zhv 1 [] [.pub 2] (by decide) (by kernel_rfl) (by rfl) (by decide) (by decide) (by rfl)
    (by rintro a0; kernel_rfl)
noncomputable def zc34 : Code := Tryz.f94.body.getD .skip
def zv34 : List (List Nat) := [[0], [0, 4], [2], [2]]
noncomputable def zy34 : EnvT := ⟨Tryz.prog, zw []⟩
theorem zh34 : (zy34).Ok := ze trivial
def za34 : Ann := ⟨[], [], [], zv34, []⟩
def zd0 (a0 : (List Wait)) : Tr ((List Wait)) :=
  (.split (Sl.len (.waits a0) = 0) (True)
    (.leaf [])
    (.guard ((Sl.len (.waits []) + Sl.len (.waits a0)) * 64 ≤ 140737488355328)
    (.leaf a0)))
def zz (a0 : (List Wait)) : Option ((List Wait)) := (zd0 a0).run
def zr34 : LQ ((List Wait)) := (Par.q zol)
def zk5 : LQ ((List Wait)) := (LQ.skip (LQ.const (.own 0)) (Par.q zol))
def zb7 : SpecT := zx 0 zr34 1 [] (fun s => zd0 s) default zk5 1 [.rows 98]
theorem zdq : zj Tryz.prog 94 (zb7).spec :=
  zf (A := za34) zh34 Facts.mix Tryz.func94 (c := zc34) (by kernel_rfl) (Lc := 0) trivial zr34 1 5 [] (fun s => zd0 s) default zk5 1 [.rows 98] [.nilown 2 98 (.waits [])] (by decide) (by kernel_rfl) (by rfl) (by decide) (by decide) (by rfl)
    (by rintro a0; kernel_rfl)
noncomputable def zc35 : Code := Tryz.f134.body.getD .skip
def zv35 : List (List Nat) := [[0], [0, 4], [2], [2]]
noncomputable def zy35 : EnvT := ⟨Tryz.prog, zw []⟩
theorem zh35 : (zy35).Ok := ze trivial
def za35 : Ann := ⟨[], [], [], zv35, []⟩
def zdr (a0 : (List Asked)) : Tr ((List Asked)) :=
  (.split (Sl.len (.asked a0) = 0) (True)
    (.leaf [])
    (.guard ((Sl.len (.asked []) + Sl.len (.asked a0)) * 88 ≤ 140737488355328)
    (.leaf a0)))
def zax (a0 : (List Asked)) : Option ((List Asked)) := (zdr a0).run
def zr35 : LQ ((List Asked)) := (Par.q zfn)
def zjp : LQ ((List Asked)) := (LQ.skip (LQ.const (.own 0)) (Par.q zfn))
def zfo : SpecT := zx 0 zr35 1 [] (fun s => zdr s) default zjp 1 [.rows 101]
theorem zjq : zj Tryz.prog 134 (zfo).spec :=
  zf (A := za35) zh35 Facts.mix Tryz.func134 (c := zc35) (by kernel_rfl) (Lc := 0) trivial zr35 1 5 [] (fun s => zdr s) default zjp 1 [.rows 101] [.nilown 2 101 (.asked [])] (by decide) (by kernel_rfl) (by rfl) (by decide) (by decide) (by rfl)
    (by rintro a0; kernel_rfl)
noncomputable def zc36 : Code := Tryz.f135.body.getD .skip
def zv36 : List (List Nat) := [[0], [0, 4], [2], [2]]
noncomputable def zy36 : EnvT := ⟨Tryz.prog, zw []⟩
theorem zh36 : (zy36).Ok := ze trivial
def za36 : Ann := ⟨[], [], [], zv36, []⟩
def zdb (a0 : (List Packet)) : Tr ((List Packet)) :=
  (.split (Sl.len (.packets a0) = 0) (True)
    (.leaf [])
    (.guard ((Sl.len (.packets []) + Sl.len (.packets a0)) * 80 ≤ 140737488355328)
    (.leaf a0)))
def zbo (a0 : (List Packet)) : Option ((List Packet)) := (zdb a0).run
def zr36 : LQ ((List Packet)) := (Par.q zej)
def zi2 : LQ ((List Packet)) := (LQ.skip (LQ.const (.own 0)) (Par.q zej))
def zjr : SpecT := zx 0 zr36 1 [] (fun s => zdb s) default zi2 1 [.rows 79]
theorem zrx : zj Tryz.prog 135 (zjr).spec :=
  zf (A := za36) zh36 Facts.mix Tryz.func135 (c := zc36) (by kernel_rfl) (Lc := 0) trivial zr36 1 5 [] (fun s => zdb s) default zi2 1 [.rows 79] [.nilown 2 79 (.packets [])] (by decide) (by kernel_rfl) (by rfl) (by decide) (by decide) (by rfl)
    (by rintro a0; kernel_rfl)
noncomputable def zc37 : Code := Tryz.f103.body.getD .skip
def zv37 : List (List Nat) := [[0], [0, 4], [2], [2]]
noncomputable def zy37 : EnvT := ⟨Tryz.prog, zw []⟩
theorem zh37 : (zy37).Ok := ze trivial
def za37 : Ann := ⟨[], [], [], zv37, []⟩
def zd1 (a0 : (List Ripe)) : Tr ((List Ripe)) :=
  (.split (Sl.len (.ripes a0) = 0) (True)
    (.leaf [])
    (.guard ((Sl.len (.ripes []) + Sl.len (.ripes a0)) * 16 ≤ 140737488355328)
    (.leaf a0)))
def zfp (a0 : (List Ripe)) : Option ((List Ripe)) := (zd1 a0).run
def zr37 : LQ ((List Ripe)) := (Par.q zzw)
def zk6 : LQ ((List Ripe)) := (LQ.skip (LQ.const (.own 0)) (Par.q zzw))
def zlk : SpecT := zx 0 zr37 1 [] (fun s => zd1 s) default zk6 1 [.rows 103]
theorem zt9 : zj Tryz.prog 103 (zlk).spec :=
  zf (A := za37) zh37 Facts.mix Tryz.func103 (c := zc37) (by kernel_rfl) (Lc := 0) trivial zr37 1 5 [] (fun s => zd1 s) default zk6 1 [.rows 103] [.nilown 2 103 (.ripes [])] (by decide) (by kernel_rfl) (by rfl) (by decide) (by decide) (by rfl)
    (by rintro a0; kernel_rfl)
noncomputable def zc38 : Code := Tryz.f45.body.getD .skip
def zv38 : List (List Nat) := [[0], [0, 4], [2], [2]]
noncomputable def zy38 : EnvT := ⟨Tryz.prog, zw []⟩
theorem zh38 : (zy38).Ok := ze trivial
def za38 : Ann := ⟨[], [], [], zv38, []⟩
def zd2 (a0 : (List Deed)) : Tr ((List Deed)) :=
  (.split (Sl.len (.deeds a0) = 0) (True)
    (.leaf [])
    (.guard ((Sl.len (.deeds []) + Sl.len (.deeds a0)) * 48 ≤ 140737488355328)
    (.leaf a0)))
def zfq (a0 : (List Deed)) : Option ((List Deed)) := (zd2 a0).run
def zr38 : LQ ((List Deed)) := (Par.q deedsP)
def zk7 : LQ ((List Deed)) := (LQ.skip (LQ.const (.own 0)) (Par.q deedsP))
def zll : SpecT := zx 0 zr38 1 [] (fun s => zd2 s) default zk7 1 [.rows 35]
theorem zua : zj Tryz.prog 45 (zll).spec :=
  zf (A := za38) zh38 Facts.mix Tryz.func45 (c := zc38) (by kernel_rfl) (Lc := 0) trivial zr38 1 5 [] (fun s => zd2 s) default zk7 1 [.rows 35] [.nilown 2 35 (.deeds [])] (by decide) (by kernel_rfl) (by rfl) (by decide) (by decide) (by rfl)
    (by rintro a0; kernel_rfl)
noncomputable def zc39 : Code := Tryz.f72.body.getD .skip
def zv39 : List (List Nat) := [[0], [2]]
noncomputable def zy39 : EnvT := ⟨Tryz.prog, zw []⟩
theorem zh39 : (zy39).Ok := ze trivial
def za39 : Ann := ⟨[], [], [], zv39, []⟩
def zqc (a0 : Int) : Tr (Bool) :=
  (.leaf (decide (a0 < 0)))
def zz6 (a0 : Int) : Option (Bool) := (zqc a0).run
def zr39 : LQ (Int) := (Par.q intP)
def zz7 : LQ (Bool) := (Par.q boolP)
def z2o : SpecT := zx 0 zr39 1 [] (fun s => zqc s) default zz7 1 []
theorem z9a : zj Tryz.prog 72 (z2o).spec :=
  zf (A := za39) zh39 Facts.mix Tryz.func72 (c := zc39) (by kernel_rfl) (Lc := 0) trivial zr39 1 2 [] (fun s => zqc s) default zz7 1 [] [] (by decide) (by kernel_rfl) (by rfl) (by decide) (by decide) (by rfl)
    (by rintro a0; kernel_rfl)
noncomputable def zc40 : Code := Tryz.f90.body.getD .skip
def zv40 : List (List Nat) := [[0, 1], [0, 1, 7, 8], [0, 1, 7, 8, 9], [0, 1, 5, 7, 8], [0, 1, 5, 7, 8, 16], [4], [0, 1, 7, 8], [4]]
noncomputable def zy40 : EnvT := ⟨Tryz.prog, zw [(72, z2o)]⟩
theorem zh40 : (zy40).Ok := ze ⟨z9a, trivial⟩
def zdc (x0 : (List Int)) (x1 : Int) (x2 : Int) : Tr (((List Int) × Int × Int) ⊕ ((Int) ⊕ (Unit))) :=
  (.ite (decide (x2 < x1))
    (.guard ((0 : Int) ≤ x2 ∧ x2 < ((Sl.len (.ints x0) : Nat) : Int))
    (.bind (zz6 (x0.getD x2.toNat 0)) fun v1 =>
    (.ite (v1)
      (.leaf (.inr (.inl x2)))
      (.leaf (.inl (x0, x1, IntKind.i64.wrap (x2 + 1)))))))
    (.leaf (.inr (.inr ()))))
def zi3 (x0 : (List Int)) (x1 : Int) (x2 : Int) : Option ((Int) ⊕ (Unit)) := zd5 (fun s : (List Int) × Int × Int => (zdc s.1 s.2.1 s.2.2).run) (x0, x1, x2)
def za3z : Ann := ⟨[], [], [], zv40, []⟩
def za4c : EndD ((List Int) × Int × Int) := ⟨(LQ.seq (Par.q zhs) (LQ.skip (LQ.const (.fn 72 [])) (LQ.seq (Par.q intP) (Par.q intP)))), ⟨[0, 1, 7, 8], [.pub 0, .nilsl 0 (.ints [])]⟩, []⟩
def zate : EndD (Int) := ⟨(Par.q intP), ⟨[4], []⟩, []⟩
def zatf : EndD (Unit) := ⟨LQ.nil, ⟨[], []⟩, []⟩
def zaxi : St → Option LR := L2 19 2 0 za4c .ret zate (.exit 0) zatf (fun s => zdc s.1 s.2.1 s.2.2)
theorem za4d : zv (zy40).env 0 (sub zc40 [0, 1, 0, 1]) zaxi :=
  zlc (A := za3z) zh40 Facts.mix trivial (k := zb1 (sub zc40 [0, 1, 0, 1])) (by kernel_rfl) rfl rfl (by rintro ⟨x0, x1, x2⟩; kernel_rfl)
def za40 : Ann := ⟨[([0, 1, 0, 1], zaxi)], [], [], zv40, []⟩
def zct (a0 : (List Int)) : Tr (Int) :=
  (.two (zi3 a0 ((a0.length : Nat) : Int) 0) (fun v2 =>
    (.leaf v2)) (fun v3 =>
    (.leaf (-1))))
def zgm (a0 : (List Int)) : Option (Int) := (zct a0).run
def zr40 : LQ ((List Int)) := (LQ.skipR (Par.q zhs) (LQ.const (.fn 72 [])))
def zlm : LQ (Int) := (Par.q intP)
def zmu : SpecT := zx 0 zr40 2 [] (fun s => zct s) default zlm 1 []
theorem zvf : zj Tryz.prog 90 (zmu).spec :=
  zf (A := za40) zh40 Facts.mix Tryz.func90 (c := zc40) (by kernel_rfl) (Lc := 0) ⟨za4d, trivial⟩ zr40 2 2 [] (fun s => zct s) default zlm 1 [] [] (by decide) (by kernel_rfl) (by rfl) (by decide) (by decide) (by rfl)
    (by rintro a0; kernel_rfl)
noncomputable def zc41 : Code := Tryz.f71.body.getD .skip
def zv41 : List (List Nat) := [[0, 1], [4]]
noncomputable def zy41 : EnvT := ⟨Tryz.prog, zw [(90, zmu)]⟩
theorem zh41 : (zy41).Ok := ze ⟨zvf, trivial⟩
def za41 : Ann := ⟨[], [], [], zv41, []⟩
def zdd (a0 : (List Int)) : Tr (Bool) :=
  (.bind (zgm a0) fun v1 =>
  (.leaf (decide (v1 ≥ 0))))
def zeq (a0 : (List Int)) : Option (Bool) := (zdd a0).run
def zr41 : LQ ((List Int)) := (LQ.skipR (Par.q zhs) (LQ.const (.fn 72 [])))
def zi4 : LQ (Bool) := (Par.q boolP)
def zjs : SpecT := zx 0 zr41 2 [] (fun s => zdd s) default zi4 1 []
theorem zry : zj Tryz.prog 71 (zjs).spec :=
  zf (A := za41) zh41 Facts.mix Tryz.func71 (c := zc41) (by kernel_rfl) (Lc := 0) trivial zr41 2 2 [] (fun s => zdd s) default zi4 1 [] [] (by decide) (by kernel_rfl) (by rfl) (by decide) (by decide) (by rfl)
    (by rintro a0; kernel_rfl)
noncomputable def zc42 : Code := Tryz.f52.body.getD .skip
def zv42 : List (List Nat) := [[1], [1, 28], [2], [2]]
noncomputable def zy42 : EnvT := ⟨Tryz.prog, zw [(71, zjs)]⟩
theorem zh42 : (zy42).Ok := ze ⟨zry, trivial⟩
def za42 : Ann := ⟨[], [], [], zv42, []⟩
def zvg (a0 : zbk) : Tr (Bool) :=
  (.ite ((((((a0.Said.length : Nat) : Int) != ((a0.Due.length : Nat) : Int)) || (decide (((a0.Said.length : Nat) : Int) > 400))) || (decide (a0.Got < 0))) || (decide (a0.Got > ((a0.Said.length : Nat) : Int))))
    (.leaf false)
    (.bind (zeq a0.Due) fun v1 =>
    (.leaf (!v1))))
def zez (a0 : zbk) : Option (Bool) := (zvg a0).run
def zr42 : LQ (zbk) := (Par.q (Par.ofLP lineL))
def z4t : LQ (Bool) := (Par.q boolP)
def zm3 : SpecT := zx 0 zr42 1 [] (fun s => zvg s) default z4t 1 []
theorem zon : zj Tryz.prog 52 (zm3).spec :=
  zf (A := za42) zh42 Facts.mix Tryz.func52 (c := zc42) (by kernel_rfl) (Lc := 0) trivial zr42 1 3 [] (fun s => zvg s) default z4t 1 [] [] (by decide) (by kernel_rfl) (by rfl) (by decide) (by decide) (by rfl)
    (by rintro a0; kernel_rfl)
noncomputable def zc43 : Code := Tryz.f133.body.getD .skip
def zv43 : List (List Nat) := [[1, 2, 3, 6], [1, 2, 3, 6, 8], [6, 7], [1, 2, 3, 6, 17], [6, 7], [1, 2, 3, 6, 21], [6, 7], [3, 6], [6, 7]]
noncomputable def zy43 : EnvT := ⟨Tryz.prog, zw [(52, zm3), (150, zom), (126, zlj)]⟩
theorem zh43 : (zy43).Ok := ze ⟨zon, zw2, zq4, trivial⟩
def za43 : Ann := ⟨[], [], [], zv43, []⟩
def zzd (a0 : zbk) (a1 : ByteArray) (a2 : Int) : Tr (zbk × Int) :=
  (.bind (zez a0) fun v1 =>
  (.ite ((!v1) || (decide (a2 < 0)))
    (.leaf (a0, 2))
    (.ite (a0.Closed)
      (.leaf (a0, 11))
      (.ite (decide (((a0.Said.length : Nat) : Int) ≥ 400))
        (.leaf (a0, 6))
        (.guard ((zcs a0.Said).isSome = true)
        (.guard ((Sl.len (.strs ((zcs a0.Said).getD default)) + Sl.len (.strs [a1])) * 16 ≤ 140737488355328)
        (.guard ((zaf a0.Due).isSome = true)
        (.guard ((Sl.len (.ints ((zaf a0.Due).getD default)) + Sl.len (.ints [a2])) * 8 ≤ 140737488355328)
        (.leaf ({ (a0 : zbk) with Said := ((zcs a0.Said).getD default) ++ [a1], Due := ((zaf a0.Due).getD default) ++ [a2] }, 0))))))))))
def zvh (a0 : zbk) (a1 : ByteArray) (a2 : Int) : Option (zbk × Int) := (zzd a0 a1 a2).run
def zr43 : LQ (zbk × ByteArray × Int) := (LQ.seq (Par.q (Par.ofLP lineL)) (LQ.seq (Par.q strP) (Par.q intP)))
def z61 : LQ (zbk × Int) := (LQ.seq (Par.q (Par.ofLP lineL)) (Par.q intP))
def z3s : SpecT := zx 0 zr43 3 [] (fun s => zzd s.1 s.2.1 s.2.2) default z61 2 []
theorem z62 : zj Tryz.prog 133 (z3s).spec :=
  zf (A := za43) zh43 Facts.mix Tryz.func133 (c := zc43) (by kernel_rfl) (Lc := 0) trivial zr43 3 10 [] (fun s => zzd s.1 s.2.1 s.2.2) default z61 2 [] [.pubB 6] (by decide) (by kernel_rfl) (by rfl) (by decide) (by decide) (by rfl)
    (by rintro ⟨a0, a1, a2⟩; kernel_rfl)
noncomputable def zc44 : Code := Tryz.f106.body.getD .skip
def zv44 : List (List Nat) := [[1, 2, 3, 4, 5, 10], [1, 2, 3, 4, 5, 10, 12], [10, 11], [1, 2, 3, 4, 5, 10, 17], [10, 11], [1, 2, 3, 4, 5, 10, 21], [10, 11], [1, 4, 5, 10, 28], [10, 11], [1, 5, 10, 50], [10, 11], [5, 10], [10, 11]]
noncomputable def zy44 : EnvT := ⟨Tryz.prog, zw [(52, zm3)]⟩
theorem zh44 : (zy44).Ok := ze ⟨zon, trivial⟩
def za44 : Ann := ⟨[], [], [], zv44, []⟩
def znr (a0 : zbk) (a1 : Int) (a2 : ByteArray) (a3 : Int) (a4 : Int) : Tr (zbk × Int) :=
  (.bind (zez a0) fun v1 =>
  (.ite (!v1)
    (.leaf (a0, 2))
    (.ite (a0.Closed)
      (.leaf (a0, 11))
      (.ite (a1 != (IntKind.i64.wrap (a0.Got + 1)))
        (.leaf (a0, 10))
        (.guard ((((decide (a1 > a3)) || (decide (a1 > ((a0.Said.length : Nat) : Int)))) = false → ((0 : Int) ≤ (IntKind.i64.wrap (a1 - 1)) ∧ (IntKind.i64.wrap (a1 - 1)) < ((Sl.len (.strs a0.Said) : Nat) : Int)) ∧ True))
        (.ite (((decide (a1 > a3)) || (decide (a1 > ((a0.Said.length : Nat) : Int)))) || (!((a0.Said.getD ((IntKind.i64.wrap (a1 - 1)).toNat) .empty).toList == a2.toList)))
          (.leaf (a0, 9))
          (.guard ((0 : Int) ≤ (IntKind.i64.wrap (a1 - 1)) ∧ (IntKind.i64.wrap (a1 - 1)) < ((Sl.len (.ints a0.Due) : Nat) : Int))
          (.ite (decide (a4 ≥ (a0.Due.getD ((IntKind.i64.wrap (a1 - 1)).toNat) 0)))
            (.leaf (a0, 12))
            (.leaf ({ (a0 : zbk) with Got := a1 }, 0))))))))))
def zl (a0 : zbk) (a1 : Int) (a2 : ByteArray) (a3 : Int) (a4 : Int) : Option (zbk × Int) := (znr a0 a1 a2 a3 a4).run
def zr44 : LQ (zbk × Int × ByteArray × Int × Int) := (LQ.seq (Par.q (Par.ofLP lineL)) (LQ.seq (Par.q intP) (LQ.seq (Par.q strP) (LQ.seq (Par.q intP) (Par.q intP)))))
def zxn : LQ (zbk × Int) := (LQ.seq (Par.q (Par.ofLP lineL)) (Par.q intP))
def zz8 : SpecT := zx 0 zr44 5 [] (fun s => znr s.1 s.2.1 s.2.2.1 s.2.2.2.1 s.2.2.2.2) default zxn 2 []
theorem z63 : zj Tryz.prog 106 (zz8).spec :=
  zf (A := za44) zh44 Facts.mix Tryz.func106 (c := zc44) (by kernel_rfl) (Lc := 0) trivial zr44 5 4 [] (fun s => znr s.1 s.2.1 s.2.2.1 s.2.2.2.1 s.2.2.2.2) default zxn 2 [] [.pubB 10] (by decide) (by kernel_rfl) (by rfl) (by decide) (by decide) (by rfl)
    (by rintro ⟨a0, a1, a2, a3, a4⟩; kernel_rfl)
noncomputable def zc45 : Code := Tryz.f109.body.getD .skip
def zv45 : List (List Nat) := [[1, 2, 3, 4, 8], [1, 2, 3, 4, 8, 10], [8, 9], [1, 2, 3, 4, 8, 15], [8, 9], [1, 2, 3, 4, 8, 19], [8, 9], [1, 2, 4, 8, 30], [8, 9], [4, 8, 35], [8, 9], [4, 8], [8, 9]]
noncomputable def zy45 : EnvT := ⟨Tryz.prog, zw [(52, zm3)]⟩
theorem zh45 : (zy45).Ok := ze ⟨zon, trivial⟩
def za45 : Ann := ⟨[], [], [], zv45, []⟩
def zqd (a0 : zbk) (a1 : Int) (a2 : Int) (a3 : Int) : Tr (zbk × Int) :=
  (.bind (zez a0) fun v1 =>
  (.ite (!v1)
    (.leaf (a0, 2))
    (.ite (a0.Closed)
      (.leaf (a0, 11))
      (.ite ((decide (a1 < 1)) || (decide (a1 > ((a0.Said.length : Nat) : Int))))
        (.leaf (a0, 4))
        (.ite (decide (a1 ≤ a3))
          (.leaf (a0, 5))
          (.guard ((0 : Int) ≤ (IntKind.i64.wrap (a1 - 1)) ∧ (IntKind.i64.wrap (a1 - 1)) < ((Sl.len (.ints a0.Due) : Nat) : Int))
          (.ite (decide (a2 < (a0.Due.getD ((IntKind.i64.wrap (a1 - 1)).toNat) 0)))
            (.leaf (a0, 13))
            (.leaf ({ (a0 : zbk) with Closed := true }, 0)))))))))
def zns (a0 : zbk) (a1 : Int) (a2 : Int) (a3 : Int) : Option (zbk × Int) := (zqd a0 a1 a2 a3).run
def zr45 : LQ (zbk × Int × Int × Int) := (LQ.seq (Par.q (Par.ofLP lineL)) (LQ.seq (Par.q intP) (LQ.seq (Par.q intP) (Par.q intP))))
def zz9 : LQ (zbk × Int) := (LQ.seq (Par.q (Par.ofLP lineL)) (Par.q intP))
def z2p : SpecT := zx 0 zr45 4 [] (fun s => zqd s.1 s.2.1 s.2.2.1 s.2.2.2) default zz9 2 []
theorem z9b : zj Tryz.prog 109 (z2p).spec :=
  zf (A := za45) zh45 Facts.mix Tryz.func109 (c := zc45) (by kernel_rfl) (Lc := 0) trivial zr45 4 4 [] (fun s => zqd s.1 s.2.1 s.2.2.1 s.2.2.2) default zz9 2 [] [.pubB 8] (by decide) (by kernel_rfl) (by rfl) (by decide) (by decide) (by rfl)
    (by rintro ⟨a0, a1, a2, a3⟩; kernel_rfl)
end
end Go.Proofs.YtmakmlnfbdablaaGreat.Ab
