/-
  The functions, each by its tree.
-/
import Derived.Test.YtmakmlnfbdablaaGreatXAbFun
import Derived.Test.YtmakmlnfbdablaaGreatXAbStructs
import Derived.Test.YtmakmlnfbdablaaGreatXFacts
namespace Go.Proofs.YtmakmlnfbdablaaGreat.Ab
open Go Go.RowKit
set_option maxRecDepth 100000
set_option linter.unusedVariables false
set_option linter.unusedSimpArgs false
noncomputable section
noncomputable def zc30 : Code := Tryz.f150.body.getD .skip
def zv30 : List (List Nat) := [[0], [0, 4], [2], [2]]
noncomputable def zy30 : EnvT := ⟨Tryz.prog, zr []⟩
theorem zh30 : (zy30).Ok := ze trivial
def za30 : Ann := ⟨[], [], [], zv30, []⟩
def zes (a0 : (List ByteArray)) : Tr ((List ByteArray)) :=
  (.split (Sl.len (.strs a0) = 0) (True)
    (.leaf [])
    (.guard ((Sl.len (.strs []) + Sl.len (.strs a0)) * 16 ≤ 140737488355328)
    (.leaf a0)))
def zcm (a0 : (List ByteArray)) : Option ((List ByteArray)) := (zes a0).run
def zr30 : LQ ((List ByteArray)) := (Par.q zarp)
def zlu : LQ ((List ByteArray)) := (LQ.skip (LQ.const (.own 0)) (Par.q zarp))
def zng : SpecT := zv 0 zr30 1 [] (fun s => zes s) default zlu 1 [.rows 9]
theorem zvj : zi Tryz.prog 150 (zng).spec :=
  zf (A := za30) zh30 Facts.mix Tryz.func150 (c := zc30) (by kernel_rfl) (Lc := 0) trivial zr30 1 5 [] (fun s => zes s) default zlu 1 [.rows 9] [.nilown 2 9 (.strs [])] (by decide) (by kernel_rfl) (by rfl) (by decide) (by decide) (by rfl)
    (by rintro a0; kernel_rfl)
noncomputable def zc31 : Code := Tryz.f126.body.getD .skip
def zv31 : List (List Nat) := [[0], [0, 4], [2], [2]]
noncomputable def zy31 : EnvT := ⟨Tryz.prog, zr []⟩
theorem zh31 : (zy31).Ok := ze trivial
def za31 : Ann := ⟨[], [], [], zv31, []⟩
def zg6 (a0 : (List Int)) : Tr ((List Int)) :=
  (.split (Sl.len (.ints a0) = 0) (True)
    (.leaf [])
    (.guard ((Sl.len (.ints []) + Sl.len (.ints a0)) * 8 ≤ 140737488355328)
    (.leaf a0)))
def z7 (a0 : (List Int)) : Option ((List Int)) := (zg6 a0).run
def zr31 : LQ ((List Int)) := (Par.q zhg)
def zpw : LQ ((List Int)) := (LQ.skip (LQ.const (.own 0)) (Par.q zhg))
def zko : SpecT := zv 0 zr31 1 [] (fun s => zg6 s) default zpw 1 [.rows 3]
theorem zpx : zi Tryz.prog 126 (zko).spec :=
  zf (A := za31) zh31 Facts.mix Tryz.func126 (c := zc31) (by kernel_rfl) (Lc := 0) trivial zr31 1 5 [] (fun s => zg6 s) default zpw 1 [.rows 3] [.nilown 2 3 (.ints [])] (by decide) (by kernel_rfl) (by rfl) (by decide) (by decide) (by rfl)
    (by rintro a0; kernel_rfl)
noncomputable def zc32 : Code := Tryz.f102.body.getD .skip
def zv32 : List (List Nat) := [[0], [0, 4], [2], [2]]
noncomputable def zy32 : EnvT := ⟨Tryz.prog, zr []⟩
theorem zh32 : (zy32).Ok := ze trivial
def za32 : Ann := ⟨[], [], [], zv32, []⟩
def zdh (a0 : (List Power)) : Tr ((List Power)) :=
  (.split (Sl.len (.powers a0) = 0) (True)
    (.leaf [])
    (.guard ((Sl.len (.powers []) + Sl.len (.powers a0)) * 16 ≤ 140737488355328)
    (.leaf a0)))
def ze9 (a0 : (List Power)) : Option ((List Power)) := (zdh a0).run
def zr32 : LQ ((List Power)) := (Par.q zm)
def zi4 : LQ ((List Power)) := (LQ.skip (LQ.const (.own 0)) (Par.q zm))
def zkd : SpecT := zv 0 zr32 1 [] (fun s => zdh s) default zi4 1 [.rows 83]
theorem zsj : zi Tryz.prog 102 (zkd).spec :=
  zf (A := za32) zh32 Facts.mix Tryz.func102 (c := zc32) (by kernel_rfl) (Lc := 0) trivial zr32 1 5 [] (fun s => zdh s) default zi4 1 [.rows 83] [.nilown 2 83 (.powers [])] (by decide) (by kernel_rfl) (by rfl) (by decide) (by decide) (by rfl)
    (by rintro a0; kernel_rfl)
noncomputable def zc33 : Code := Tryz.f102.body.getD .skip
def zv33 : List (List Nat) := [[0], [0, 4], [2], [2]]
noncomputable def zy33 : EnvT := ⟨Tryz.prog, zr []⟩
theorem zh33 : (zy33).Ok := ze trivial
def za33 : Ann := ⟨[], [], [], zv33, []⟩
def zcl (a0 : (List Power)) : Tr ((List Power)) :=
  (.split (Sl.len (.powers a0) = 0) (True)
    (.leaf [])
    (.guard ((Sl.len (.powers []) + Sl.len (.powers a0)) * 16 ≤ 140737488355328)
    (.leaf a0)))
def zak (a0 : (List Power)) : Option ((List Power)) := (zcl a0).run
def zr33 : LQ ((List Power)) := (Par.q zm)
def zhi : LQ ((List Power)) := (Par.q zm)
def zek : SpecT := zv 0 zr33 1 [] (fun s => zcl s) default zhi 1 []
theorem zhj : zi Tryz.prog 102 (zek).spec :=
  zf (A := za33) zh33 Facts.mix Tryz.func102 (c := zc33) (by kernel_rfl) (Lc := 0) trivial zr33 1 5 [] (fun s => zcl s) default zhi 1 [] [.pub 2] (by decide) (by kernel_rfl) (by rfl) (by decide) (by decide) (by rfl)
    (by rintro a0; kernel_rfl)
noncomputable def zc34 : Code := Tryz.f94.body.getD .skip
def zv34 : List (List Nat) := [[0], [0, 4], [2], [2]]
noncomputable def zy34 : EnvT := ⟨Tryz.prog, zr []⟩
theorem zh34 : (zy34).Ok := ze trivial
def za34 : Ann := ⟨[], [], [], zv34, []⟩
def zdw (a0 : (List Wait)) : Tr ((List Wait)) :=
  (.split (Sl.len (.waits a0) = 0) (True)
    (.leaf [])
    (.guard ((Sl.len (.waits []) + Sl.len (.waits a0)) * 64 ≤ 140737488355328)
    (.leaf a0)))
def zu (a0 : (List Wait)) : Option ((List Wait)) := (zdw a0).run
def zr34 : LQ ((List Wait)) := (Par.q znf)
def zke : LQ ((List Wait)) := (LQ.skip (LQ.const (.own 0)) (Par.q znf))
def zb3 : SpecT := zv 0 zr34 1 [] (fun s => zdw s) default zke 1 [.rows 98]
theorem zdi : zi Tryz.prog 94 (zb3).spec :=
  zf (A := za34) zh34 Facts.mix Tryz.func94 (c := zc34) (by kernel_rfl) (Lc := 0) trivial zr34 1 5 [] (fun s => zdw s) default zke 1 [.rows 98] [.nilown 2 98 (.waits [])] (by decide) (by kernel_rfl) (by rfl) (by decide) (by decide) (by rfl)
    (by rintro a0; kernel_rfl)
noncomputable def zc35 : Code := Tryz.f134.body.getD .skip
def zv35 : List (List Nat) := [[0], [0, 4], [2], [2]]
noncomputable def zy35 : EnvT := ⟨Tryz.prog, zr []⟩
theorem zh35 : (zy35).Ok := ze trivial
def za35 : Ann := ⟨[], [], [], zv35, []⟩
def zdj (a0 : (List Asked)) : Tr ((List Asked)) :=
  (.split (Sl.len (.asked a0) = 0) (True)
    (.leaf [])
    (.guard ((Sl.len (.asked []) + Sl.len (.asked a0)) * 88 ≤ 140737488355328)
    (.leaf a0)))
def zar (a0 : (List Asked)) : Option ((List Asked)) := (zdj a0).run
def zr35 : LQ ((List Asked)) := (Par.q zfl)
def zi5 : LQ ((List Asked)) := (LQ.skip (LQ.const (.own 0)) (Par.q zfl))
def zfm : SpecT := zv 0 zr35 1 [] (fun s => zdj s) default zi5 1 [.rows 101]
theorem zi6 : zi Tryz.prog 134 (zfm).spec :=
  zf (A := za35) zh35 Facts.mix Tryz.func134 (c := zc35) (by kernel_rfl) (Lc := 0) trivial zr35 1 5 [] (fun s => zdj s) default zi5 1 [.rows 101] [.nilown 2 101 (.asked [])] (by decide) (by kernel_rfl) (by rfl) (by decide) (by decide) (by rfl)
    (by rintro a0; kernel_rfl)
noncomputable def zc36 : Code := Tryz.f135.body.getD .skip
def zv36 : List (List Nat) := [[0], [0, 4], [2], [2]]
noncomputable def zy36 : EnvT := ⟨Tryz.prog, zr []⟩
theorem zh36 : (zy36).Ok := ze trivial
def za36 : Ann := ⟨[], [], [], zv36, []⟩
def zcs (a0 : (List Packet)) : Tr ((List Packet)) :=
  (.split (Sl.len (.packets a0) = 0) (True)
    (.leaf [])
    (.guard ((Sl.len (.packets []) + Sl.len (.packets a0)) * 80 ≤ 140737488355328)
    (.leaf a0)))
def zbk (a0 : (List Packet)) : Option ((List Packet)) := (zcs a0).run
def zr36 : LQ ((List Packet)) := (Par.q zdv)
def zil : LQ ((List Packet)) := (LQ.skip (LQ.const (.own 0)) (Par.q zdv))
def zi7 : SpecT := zv 0 zr36 1 [] (fun s => zcs s) default zil 1 [.rows 79]
theorem zqo : zi Tryz.prog 135 (zi7).spec :=
  zf (A := za36) zh36 Facts.mix Tryz.func135 (c := zc36) (by kernel_rfl) (Lc := 0) trivial zr36 1 5 [] (fun s => zcs s) default zil 1 [.rows 79] [.nilown 2 79 (.packets [])] (by decide) (by kernel_rfl) (by rfl) (by decide) (by decide) (by rfl)
    (by rintro a0; kernel_rfl)
noncomputable def zc37 : Code := Tryz.f103.body.getD .skip
def zv37 : List (List Nat) := [[0], [0, 4], [2], [2]]
noncomputable def zy37 : EnvT := ⟨Tryz.prog, zr []⟩
theorem zh37 : (zy37).Ok := ze trivial
def za37 : Ann := ⟨[], [], [], zv37, []⟩
def zdx (a0 : (List Ripe)) : Tr ((List Ripe)) :=
  (.split (Sl.len (.ripes a0) = 0) (True)
    (.leaf [])
    (.guard ((Sl.len (.ripes []) + Sl.len (.ripes a0)) * 16 ≤ 140737488355328)
    (.leaf a0)))
def zfn (a0 : (List Ripe)) : Option ((List Ripe)) := (zdx a0).run
def zr37 : LQ ((List Ripe)) := (Par.q zyf)
def zkf : LQ ((List Ripe)) := (LQ.skip (LQ.const (.own 0)) (Par.q zyf))
def zkp : SpecT := zv 0 zr37 1 [] (fun s => zdx s) default zkf 1 [.rows 103]
theorem zsy : zi Tryz.prog 103 (zkp).spec :=
  zf (A := za37) zh37 Facts.mix Tryz.func103 (c := zc37) (by kernel_rfl) (Lc := 0) trivial zr37 1 5 [] (fun s => zdx s) default zkf 1 [.rows 103] [.nilown 2 103 (.ripes [])] (by decide) (by kernel_rfl) (by rfl) (by decide) (by decide) (by rfl)
    (by rintro a0; kernel_rfl)
noncomputable def zc39 : Code := Tryz.f72.body.getD .skip
def zv39 : List (List Nat) := [[0], [2]]
noncomputable def zy39 : EnvT := ⟨Tryz.prog, zr []⟩
theorem zh39 : (zy39).Ok := ze trivial
def za39 : Ann := ⟨[], [], [], zv39, []⟩
def zo8 (a0 : Int) : Tr (Bool) :=
  (.leaf (decide (a0 < 0)))
def zyp (a0 : Int) : Option (Bool) := (zo8 a0).run
def zr39 : LQ (Int) := (Par.q intP)
def zyq : LQ (Bool) := (Par.q boolP)
def z09 : SpecT := zv 0 zr39 1 [] (fun s => zo8 s) default zyq 1 []
theorem z7p : zi Tryz.prog 72 (z09).spec :=
  zf (A := za39) zh39 Facts.mix Tryz.func72 (c := zc39) (by kernel_rfl) (Lc := 0) trivial zr39 1 2 [] (fun s => zo8 s) default zyq 1 [] [] (by decide) (by kernel_rfl) (by rfl) (by decide) (by decide) (by rfl)
    (by rintro a0; kernel_rfl)
noncomputable def zc40 : Code := Tryz.f90.body.getD .skip
def zv40 : List (List Nat) := [[0, 1], [0, 1, 7, 8], [0, 1, 7, 8, 9], [0, 1, 5, 7, 8], [0, 1, 5, 7, 8, 16], [4], [0, 1, 7, 8], [4]]
noncomputable def zy40 : EnvT := ⟨Tryz.prog, zr [(72, z09)]⟩
theorem zh40 : (zy40).Ok := ze ⟨z7p, trivial⟩
def zct (x0 : (List Int)) (x1 : Int) (x2 : Int) : Tr (((List Int) × Int × Int) ⊕ ((Int) ⊕ (Unit))) :=
  (.ite (decide (x2 < x1))
    (.guard ((0 : Int) ≤ x2 ∧ x2 < ((Sl.len (.ints x0) : Nat) : Int))
    (.bind (zyp (x0.getD x2.toNat 0)) fun v1 =>
    (.ite (v1)
      (.leaf (.inr (.inl x2)))
      (.leaf (.inl (x0, x1, IntKind.i64.wrap (x2 + 1)))))))
    (.leaf (.inr (.inr ()))))
def zim (x0 : (List Int)) (x1 : Int) (x2 : Int) : Option ((Int) ⊕ (Unit)) := zeh (fun s : (List Int) × Int × Int => (zct s.1 s.2.1 s.2.2).run) (x0, x1, x2)
def za0v : Ann := ⟨[], [], [], zv40, []⟩
def za0w : EndD ((List Int) × Int × Int) := ⟨(LQ.seq (Par.q zhg) (LQ.skip (LQ.const (.fn 72 [])) (LQ.seq (Par.q intP) (Par.q intP)))), ⟨[0, 1, 7, 8], [.pub 0, .nilsl 0 (.ints [])]⟩, []⟩
def zarq : EndD (Int) := ⟨(Par.q intP), ⟨[4], []⟩, []⟩
def zarr : EndD (Unit) := ⟨LQ.nil, ⟨[], []⟩, []⟩
def zavu : St → Option LR := L2 19 2 0 za0w .ret zarq (.exit 0) zarr (fun s => zct s.1 s.2.1 s.2.2)
theorem za0x : zq (zy40).env 0 (sub zc40 [0, 1, 0, 1]) zavu :=
  zn2 (A := za0v) zh40 Facts.mix trivial (k := zci (sub zc40 [0, 1, 0, 1])) (by kernel_rfl) rfl rfl (by rintro ⟨x0, x1, x2⟩; kernel_rfl)
def za40 : Ann := ⟨[([0, 1, 0, 1], zavu)], [], [], zv40, []⟩
def zcn (a0 : (List Int)) : Tr (Int) :=
  (.two (zim a0 ((a0.length : Nat) : Int) 0) (fun v2 =>
    (.leaf v2)) (fun v3 =>
    (.leaf (-1))))
def zgc (a0 : (List Int)) : Option (Int) := (zcn a0).run
def zr40 : LQ ((List Int)) := (LQ.skipR (Par.q zhg) (LQ.const (.fn 72 [])))
def zkq : LQ (Int) := (Par.q intP)
def zlv : SpecT := zv 0 zr40 2 [] (fun s => zcn s) default zkq 1 []
theorem zt1 : zi Tryz.prog 90 (zlv).spec :=
  zf (A := za40) zh40 Facts.mix Tryz.func90 (c := zc40) (by kernel_rfl) (Lc := 0) ⟨za0x, trivial⟩ zr40 2 2 [] (fun s => zcn s) default zkq 1 [] [] (by decide) (by kernel_rfl) (by rfl) (by decide) (by decide) (by rfl)
    (by rintro a0; kernel_rfl)
noncomputable def zc41 : Code := Tryz.f71.body.getD .skip
def zv41 : List (List Nat) := [[0, 1], [4]]
noncomputable def zy41 : EnvT := ⟨Tryz.prog, zr [(90, zlv)]⟩
theorem zh41 : (zy41).Ok := ze ⟨zt1, trivial⟩
def za41 : Ann := ⟨[], [], [], zv41, []⟩
def zcu (a0 : (List Int)) : Tr (Bool) :=
  (.bind (zgc a0) fun v1 =>
  (.leaf (decide (v1 ≥ 0))))
def zel (a0 : (List Int)) : Option (Bool) := (zcu a0).run
def zr41 : LQ ((List Int)) := (LQ.skipR (Par.q zhg) (LQ.const (.fn 72 [])))
def zin : LQ (Bool) := (Par.q boolP)
def zi8 : SpecT := zv 0 zr41 2 [] (fun s => zcu s) default zin 1 []
theorem zqp : zi Tryz.prog 71 (zi8).spec :=
  zf (A := za41) zh41 Facts.mix Tryz.func71 (c := zc41) (by kernel_rfl) (Lc := 0) trivial zr41 2 2 [] (fun s => zcu s) default zin 1 [] [] (by decide) (by kernel_rfl) (by rfl) (by decide) (by decide) (by rfl)
    (by rintro a0; kernel_rfl)
noncomputable def zc42 : Code := Tryz.f52.body.getD .skip
def zv42 : List (List Nat) := [[1], [1, 28], [2], [2]]
noncomputable def zy42 : EnvT := ⟨Tryz.prog, zr [(71, zi8)]⟩
theorem zh42 : (zy42).Ok := ze ⟨zqp, trivial⟩
def za42 : Ann := ⟨[], [], [], zv42, []⟩
def zt2 (a0 : zeg) : Tr (Bool) :=
  (.ite ((((((a0.Said.length : Nat) : Int) != ((a0.Due.length : Nat) : Int)) || (decide (((a0.Said.length : Nat) : Int) > 400))) || (decide (a0.Got < 0))) || (decide (a0.Got > ((a0.Said.length : Nat) : Int))))
    (.leaf false)
    (.bind (zel a0.Due) fun v1 =>
    (.leaf (!v1))))
def zet (a0 : zeg) : Option (Bool) := (zt2 a0).run
def zr42 : LQ (zeg) := (Par.q (Par.ofLP lineL))
def z28 : LQ (Bool) := (Par.q boolP)
def zl3 : SpecT := zv 0 zr42 1 [] (fun s => zt2 s) default z28 1 []
theorem znh : zi Tryz.prog 52 (zl3).spec :=
  zf (A := za42) zh42 Facts.mix Tryz.func52 (c := zc42) (by kernel_rfl) (Lc := 0) trivial zr42 1 3 [] (fun s => zt2 s) default z28 1 [] [] (by decide) (by kernel_rfl) (by rfl) (by decide) (by decide) (by rfl)
    (by rintro a0; kernel_rfl)
noncomputable def zc43 : Code := Tryz.f133.body.getD .skip
def zv43 : List (List Nat) := [[1, 2, 3, 6], [1, 2, 3, 6, 8], [6, 7], [1, 2, 3, 6, 17], [6, 7], [1, 2, 3, 6, 21], [6, 7], [3, 6], [6, 7]]
noncomputable def zy43 : EnvT := ⟨Tryz.prog, zr [(52, zl3), (150, zng), (126, zko)]⟩
theorem zh43 : (zy43).Ok := ze ⟨znh, zvj, zpx, trivial⟩
def za43 : Ann := ⟨[], [], [], zv43, []⟩
def zxr (a0 : zeg) (a1 : ByteArray) (a2 : Int) : Tr (zeg × Int) :=
  (.bind (zet a0) fun v1 =>
  (.ite ((!v1) || (decide (a2 < 0)))
    (.leaf (a0, 2))
    (.ite (a0.Closed)
      (.leaf (a0, 11))
      (.ite (decide (((a0.Said.length : Nat) : Int) ≥ 400))
        (.leaf (a0, 6))
        (.guard ((zcm a0.Said).isSome = true)
        (.guard ((Sl.len (.strs ((zcm a0.Said).getD default)) + Sl.len (.strs [a1])) * 16 ≤ 140737488355328)
        (.guard ((z7 a0.Due).isSome = true)
        (.guard ((Sl.len (.ints ((z7 a0.Due).getD default)) + Sl.len (.ints [a2])) * 8 ≤ 140737488355328)
        (.leaf ({ (a0 : zeg) with Said := ((zcm a0.Said).getD default) ++ [a1], Due := ((z7 a0.Due).getD default) ++ [a2] }, 0))))))))))
def zt3 (a0 : zeg) (a1 : ByteArray) (a2 : Int) : Option (zeg × Int) := (zxr a0 a1 a2).run
def zr43 : LQ (zeg × ByteArray × Int) := (LQ.seq (Par.q (Par.ofLP lineL)) (LQ.seq (Par.q strP) (Par.q intP)))
def z5n : LQ (zeg × Int) := (LQ.seq (Par.q (Par.ofLP lineL)) (Par.q intP))
def z19 : SpecT := zv 0 zr43 3 [] (fun s => zxr s.1 s.2.1 s.2.2) default z5n 2 []
theorem z5o : zi Tryz.prog 133 (z19).spec :=
  zf (A := za43) zh43 Facts.mix Tryz.func133 (c := zc43) (by kernel_rfl) (Lc := 0) trivial zr43 3 10 [] (fun s => zxr s.1 s.2.1 s.2.2) default z5n 2 [] [.pubB 6] (by decide) (by kernel_rfl) (by rfl) (by decide) (by decide) (by rfl)
    (by rintro ⟨a0, a1, a2⟩; kernel_rfl)
noncomputable def zc44 : Code := Tryz.f106.body.getD .skip
def zv44 : List (List Nat) := [[1, 2, 3, 4, 5, 10], [1, 2, 3, 4, 5, 10, 12], [10, 11], [1, 2, 3, 4, 5, 10, 17], [10, 11], [1, 2, 3, 4, 5, 10, 21], [10, 11], [1, 4, 5, 10, 28], [10, 11], [1, 5, 10, 50], [10, 11], [5, 10], [10, 11]]
noncomputable def zy44 : EnvT := ⟨Tryz.prog, zr [(52, zl3)]⟩
theorem zh44 : (zy44).Ok := ze ⟨znh, trivial⟩
def za44 : Ann := ⟨[], [], [], zv44, []⟩
def zmn (a0 : zeg) (a1 : Int) (a2 : ByteArray) (a3 : Int) (a4 : Int) : Tr (zeg × Int) :=
  (.bind (zet a0) fun v1 =>
  (.ite (!v1)
    (.leaf (a0, 2))
    (.ite (a0.Closed)
      (.leaf (a0, 11))
      (.ite (a1 != (IntKind.i64.wrap (a0.Got + 1)))
        (.leaf (a0, 10))
        (.guard ((((decide (a1 > a3)) || (decide (a1 > ((a0.Said.length : Nat) : Int)))) = false → ((0 : Int) ≤ (IntKind.i64.wrap (a1 - 1)) ∧ (IntKind.i64.wrap (a1 - 1)) < ((Sl.len (.strs a0.Said) : Nat) : Int)) ∧ True))
        (.ite (((decide (a1 > a3)) || (decide (a1 > ((a0.Said.length : Nat) : Int)))) || (!((a0.Said.getD ((IntKind.i64.wrap (a1 - 1)).toNat) .empty).toList == a2.toList)))
          (.leaf (a0, 9))
          (.guard ((0 : Int) ≤ (IntKind.i64.wrap (a1 - 1)) ∧ (IntKind.i64.wrap (a1 - 1)) < ((Sl.len (.ints a0.Due) : Nat) : Int))
          (.ite (decide (a4 ≥ (a0.Due.getD ((IntKind.i64.wrap (a1 - 1)).toNat) 0)))
            (.leaf (a0, 12))
            (.leaf ({ (a0 : zeg) with Got := a1 }, 0))))))))))
def zj (a0 : zeg) (a1 : Int) (a2 : ByteArray) (a3 : Int) (a4 : Int) : Option (zeg × Int) := (zmn a0 a1 a2 a3 a4).run
def zr44 : LQ (zeg × Int × ByteArray × Int × Int) := (LQ.seq (Par.q (Par.ofLP lineL)) (LQ.seq (Par.q intP) (LQ.seq (Par.q strP) (LQ.seq (Par.q intP) (Par.q intP)))))
def zwe : LQ (zeg × Int) := (LQ.seq (Par.q (Par.ofLP lineL)) (Par.q intP))
def zyr : SpecT := zv 0 zr44 5 [] (fun s => zmn s.1 s.2.1 s.2.2.1 s.2.2.2.1 s.2.2.2.2) default zwe 2 []
theorem z5p : zi Tryz.prog 106 (zyr).spec :=
  zf (A := za44) zh44 Facts.mix Tryz.func106 (c := zc44) (by kernel_rfl) (Lc := 0) trivial zr44 5 4 [] (fun s => zmn s.1 s.2.1 s.2.2.1 s.2.2.2.1 s.2.2.2.2) default zwe 2 [] [.pubB 10] (by decide) (by kernel_rfl) (by rfl) (by decide) (by decide) (by rfl)
    (by rintro ⟨a0, a1, a2, a3, a4⟩; kernel_rfl)
noncomputable def zc45 : Code := Tryz.f109.body.getD .skip
def zv45 : List (List Nat) := [[1, 2, 3, 4, 8], [1, 2, 3, 4, 8, 10], [8, 9], [1, 2, 3, 4, 8, 15], [8, 9], [1, 2, 3, 4, 8, 19], [8, 9], [1, 2, 4, 8, 30], [8, 9], [4, 8, 35], [8, 9], [4, 8], [8, 9]]
noncomputable def zy45 : EnvT := ⟨Tryz.prog, zr [(52, zl3)]⟩
theorem zh45 : (zy45).Ok := ze ⟨znh, trivial⟩
def za45 : Ann := ⟨[], [], [], zv45, []⟩
def zo9 (a0 : zeg) (a1 : Int) (a2 : Int) (a3 : Int) : Tr (zeg × Int) :=
  (.bind (zet a0) fun v1 =>
  (.ite (!v1)
    (.leaf (a0, 2))
    (.ite (a0.Closed)
      (.leaf (a0, 11))
      (.ite ((decide (a1 < 1)) || (decide (a1 > ((a0.Said.length : Nat) : Int))))
        (.leaf (a0, 4))
        (.ite (decide (a1 ≤ a3))
          (.leaf (a0, 5))
          (.guard ((0 : Int) ≤ (IntKind.i64.wrap (a1 - 1)) ∧ (IntKind.i64.wrap (a1 - 1)) < ((Sl.len (.ints a0.Due) : Nat) : Int))
          (.ite (decide (a2 < (a0.Due.getD ((IntKind.i64.wrap (a1 - 1)).toNat) 0)))
            (.leaf (a0, 13))
            (.leaf ({ (a0 : zeg) with Closed := true }, 0)))))))))
def zmo (a0 : zeg) (a1 : Int) (a2 : Int) (a3 : Int) : Option (zeg × Int) := (zo9 a0 a1 a2 a3).run
def zr45 : LQ (zeg × Int × Int × Int) := (LQ.seq (Par.q (Par.ofLP lineL)) (LQ.seq (Par.q intP) (LQ.seq (Par.q intP) (Par.q intP))))
def zys : LQ (zeg × Int) := (LQ.seq (Par.q (Par.ofLP lineL)) (Par.q intP))
def z1a : SpecT := zv 0 zr45 4 [] (fun s => zo9 s.1 s.2.1 s.2.2.1 s.2.2.2) default zys 2 []
theorem z7q : zi Tryz.prog 109 (z1a).spec :=
  zf (A := za45) zh45 Facts.mix Tryz.func109 (c := zc45) (by kernel_rfl) (Lc := 0) trivial zr45 4 4 [] (fun s => zo9 s.1 s.2.1 s.2.2.1 s.2.2.2) default zys 2 [] [.pubB 8] (by decide) (by kernel_rfl) (by rfl) (by decide) (by decide) (by rfl)
    (by rintro ⟨a0, a1, a2, a3⟩; kernel_rfl)
end
end Go.Proofs.YtmakmlnfbdablaaGreat.Ab
