/-
  The functions, each by its tree.
-/
import Derived.Test.YtknbejjfejdppaaGreatFacts
import Derived.Test.YtknbejjfejdppaaGreatAbStructs
import Derived.Test.YtknbejjfejdppaaGreatAbFun
namespace Go.Proofs.YtknbejjfejdppaaGreat.Ab
open Go Go.RowKit
set_option maxRecDepth 100000
set_option linter.unusedVariables false
set_option linter.unusedSimpArgs false
noncomputable section

noncomputable def zc46 : Code := Tryz.f148.body.getD .skip
def zv46 : List (List Nat) := [[0], [0, 4], [2], [2]]
noncomputable def zy46 : EnvT := ⟨Tryz.prog, lookT []⟩
theorem zh46 : (zy46).Ok := lookT_ok trivial
def za46 : Ann := ⟨[], [], [], zv46, []⟩
def T_slices_Clone_string (a0 : (List ByteArray)) : Tr ((List ByteArray)) :=
  (.split (Sl.len (.strs a0) = 0) (True)
    (.leaf [])
    (.guard ((Sl.len (.strs []) + Sl.len (.strs a0)) * 16 ≤ 140737488355328)
    (.leaf a0)))
def sh_slices_Clone_string (a0 : (List ByteArray)) : Option ((List ByteArray)) := (T_slices_Clone_string a0).run
def zr46 : LQ ((List ByteArray)) := (Par.q strsP)
def qr_slices_Clone_string : LQ ((List ByteArray)) := (LQ.skip (LQ.const (.own 0)) (Par.q strsP))
def F_slices_Clone_string : SpecT := specF 0 zr46 1 [] (fun s => T_slices_Clone_string s) default qr_slices_Clone_string 1 [.rows 9]
theorem ok_slices_Clone_string : SpecOk Tryz.prog 148 (F_slices_Clone_string).spec :=
  specF_ok (A := za46) zh46 Facts.mix Tryz.func148 (c := zc46) (by kernel_rfl) (Lc := 0) trivial zr46 1 5 [] (fun s => T_slices_Clone_string s) default qr_slices_Clone_string 1 [.rows 9] [.nilown 2 9 (.strs [])] (by decide) (by kernel_rfl) (by rfl) (by decide) (by decide) (by rfl)
    (by rintro a0; kernel_rfl)

noncomputable def zc47 : Code := Tryz.f101.body.getD .skip
def zv47 : List (List Nat) := [[0], [0, 4], [2], [2]]
noncomputable def zy47 : EnvT := ⟨Tryz.prog, lookT []⟩
theorem zh47 : (zy47).Ok := lookT_ok trivial
def za47 : Ann := ⟨[], [], [], zv47, []⟩
def T_slices_Clone_int (a0 : (List Int)) : Tr ((List Int)) :=
  (.split (Sl.len (.ints a0) = 0) (True)
    (.leaf [])
    (.guard ((Sl.len (.ints []) + Sl.len (.ints a0)) * 8 ≤ 140737488355328)
    (.leaf a0)))
def sh_slices_Clone_int (a0 : (List Int)) : Option ((List Int)) := (T_slices_Clone_int a0).run
def zr47 : LQ ((List Int)) := (Par.q intsP)
def qr_slices_Clone_int : LQ ((List Int)) := (LQ.skip (LQ.const (.own 0)) (Par.q intsP))
def F_slices_Clone_int : SpecT := specF 0 zr47 1 [] (fun s => T_slices_Clone_int s) default qr_slices_Clone_int 1 [.rows 3]
theorem ok_slices_Clone_int : SpecOk Tryz.prog 101 (F_slices_Clone_int).spec :=
  specF_ok (A := za47) zh47 Facts.mix Tryz.func101 (c := zc47) (by kernel_rfl) (Lc := 0) trivial zr47 1 5 [] (fun s => T_slices_Clone_int s) default qr_slices_Clone_int 1 [.rows 3] [.nilown 2 3 (.ints [])] (by decide) (by kernel_rfl) (by rfl) (by decide) (by decide) (by rfl)
    (by rintro a0; kernel_rfl)

noncomputable def zc49 : Code := Tryz.f79.body.getD .skip
def zv49 : List (List Nat) := [[0], [0, 4], [2], [2]]
noncomputable def zy49 : EnvT := ⟨Tryz.prog, lookT []⟩
theorem zh49 : (zy49).Ok := lookT_ok trivial
def za49 : Ann := ⟨[], [], [], zv49, []⟩
def T_slices_Clone_api_Power_p (a0 : (List Power)) : Tr ((List Power)) :=
  (.split (Sl.len (.powers a0) = 0) (True)
    (.leaf [])
    (.guard ((Sl.len (.powers []) + Sl.len (.powers a0)) * 16 ≤ 140737488355328)
    (.leaf a0)))
def sh_slices_Clone_api_Power_p (a0 : (List Power)) : Option ((List Power)) := (T_slices_Clone_api_Power_p a0).run
def zr49 : LQ ((List Power)) := (Par.q powersP)
def qr_slices_Clone_api_Power_p : LQ ((List Power)) := (Par.q powersP)
def F_slices_Clone_api_Power_p : SpecT := specF 0 zr49 1 [] (fun s => T_slices_Clone_api_Power_p s) default qr_slices_Clone_api_Power_p 1 []
theorem ok_slices_Clone_api_Power_p : SpecOk Tryz.prog 79 (F_slices_Clone_api_Power_p).spec :=
  specF_ok (A := za49) zh49 Facts.mix Tryz.func79 (c := zc49) (by kernel_rfl) (Lc := 0) trivial zr49 1 5 [] (fun s => T_slices_Clone_api_Power_p s) default qr_slices_Clone_api_Power_p 1 [] [.pub 2] (by decide) (by kernel_rfl) (by rfl) (by decide) (by decide) (by rfl)
    (by rintro a0; kernel_rfl)

noncomputable def zc50 : Code := Tryz.f80.body.getD .skip
def zv50 : List (List Nat) := [[0], [0, 4], [2], [2]]
noncomputable def zy50 : EnvT := ⟨Tryz.prog, lookT []⟩
theorem zh50 : (zy50).Ok := lookT_ok trivial
def za50 : Ann := ⟨[], [], [], zv50, []⟩
def T_slices_Clone_api_Wait (a0 : (List Wait)) : Tr ((List Wait)) :=
  (.split (Sl.len (.waits a0) = 0) (True)
    (.leaf [])
    (.guard ((Sl.len (.waits []) + Sl.len (.waits a0)) * 64 ≤ 140737488355328)
    (.leaf a0)))
def sh_slices_Clone_api_Wait (a0 : (List Wait)) : Option ((List Wait)) := (T_slices_Clone_api_Wait a0).run
def zr50 : LQ ((List Wait)) := (Par.q waitsP)
def qr_slices_Clone_api_Wait : LQ ((List Wait)) := (LQ.skip (LQ.const (.own 0)) (Par.q waitsP))
def F_slices_Clone_api_Wait : SpecT := specF 0 zr50 1 [] (fun s => T_slices_Clone_api_Wait s) default qr_slices_Clone_api_Wait 1 [.rows 81]
theorem ok_slices_Clone_api_Wait : SpecOk Tryz.prog 80 (F_slices_Clone_api_Wait).spec :=
  specF_ok (A := za50) zh50 Facts.mix Tryz.func80 (c := zc50) (by kernel_rfl) (Lc := 0) trivial zr50 1 5 [] (fun s => T_slices_Clone_api_Wait s) default qr_slices_Clone_api_Wait 1 [.rows 81] [.nilown 2 81 (.waits [])] (by decide) (by kernel_rfl) (by rfl) (by decide) (by decide) (by rfl)
    (by rintro a0; kernel_rfl)

noncomputable def zc52 : Code := Tryz.f119.body.getD .skip
def zv52 : List (List Nat) := [[0], [2]]
noncomputable def zy52 : EnvT := ⟨Tryz.prog, lookT []⟩
theorem zh52 : (zy52).Ok := lookT_ok trivial
def za52 : Ann := ⟨[], [], [], zv52, []⟩
def T_line_Good_1 (a0 : Int) : Tr (Bool) :=
  (.leaf (decide (a0 < 0)))
def sh_line_Good_1 (a0 : Int) : Option (Bool) := (T_line_Good_1 a0).run
def zr52 : LQ (Int) := (Par.q intP)
def qr_line_Good_1 : LQ (Bool) := (Par.q boolP)
def F_line_Good_1 : SpecT := specF 0 zr52 1 [] (fun s => T_line_Good_1 s) default qr_line_Good_1 1 []
theorem ok_line_Good_1 : SpecOk Tryz.prog 119 (F_line_Good_1).spec :=
  specF_ok (A := za52) zh52 Facts.mix Tryz.func119 (c := zc52) (by kernel_rfl) (Lc := 0) trivial zr52 1 2 [] (fun s => T_line_Good_1 s) default qr_line_Good_1 1 [] [] (by decide) (by kernel_rfl) (by rfl) (by decide) (by decide) (by rfl)
    (by rintro a0; kernel_rfl)

noncomputable def zc53 : Code := Tryz.f152.body.getD .skip
def zv53 : List (List Nat) := [[0, 1], [0, 1, 7, 8], [0, 1, 7, 8, 9], [0, 1, 5, 7, 8], [0, 1, 5, 7, 8, 16], [4], [0, 1, 7, 8], [4]]
noncomputable def zy53 : EnvT := ⟨Tryz.prog, lookT [(119, F_line_Good_1)]⟩
theorem zh53 : (zy53).Ok := lookT_ok ⟨ok_line_Good_1, trivial⟩
def T_slices_IndexFunc_int_l1 (x0 : (List Int)) (x1 : Int) (x2 : Int) : Tr (((List Int) × Int × Int) ⊕ ((Int) ⊕ (Unit))) :=
  (.ite (decide (x2 < x1))
    (.guard ((0 : Int) ≤ x2 ∧ x2 < ((Sl.len (.ints x0) : Nat) : Int))
    (.bind (sh_line_Good_1 (x0.getD x2.toNat 0)) fun v1 =>
    (.ite (v1)
      (.leaf (.inr (.inl x2)))
      (.leaf (.inl (x0, x1, IntKind.i64.wrap (x2 + 1)))))))
    (.leaf (.inr (.inr ()))))
def sh_slices_IndexFunc_int_l1 (x0 : (List Int)) (x1 : Int) (x2 : Int) : Option ((Int) ⊕ (Unit)) := iter (fun s : (List Int) × Int × Int => (T_slices_IndexFunc_int_l1 s.1 s.2.1 s.2.2).run) (x0, x1, x2)
def za53a : Ann := ⟨[], [], [], zv53, []⟩
def zq53a : EndD ((List Int) × Int × Int) := ⟨(LQ.seq (Par.q intsP) (LQ.skip (LQ.const (.fn 119 [])) (LQ.seq (Par.q intP) (Par.q intP)))), ⟨[0, 1, 7, 8], [.pub 0, .nilsl 0 (.ints [])]⟩, []⟩
def zq53ae0 : EndD (Int) := ⟨(Par.q intP), ⟨[4], []⟩, []⟩
def zq53ae1 : EndD (Unit) := ⟨LQ.nil, ⟨[], []⟩, []⟩
def zl53a : St → Option LR := L2 19 2 0 zq53a .ret zq53ae0 (.exit 0) zq53ae1 (fun s => T_slices_IndexFunc_int_l1 s.1 s.2.1 s.2.2)
theorem zk53a : PieceOk (zy53).env 0 (sub zc53 [0, 1, 0, 1]) zl53a :=
  loop2 (A := za53a) zh53 Facts.mix trivial (k := loopB (sub zc53 [0, 1, 0, 1])) (by kernel_rfl) rfl rfl (by rintro ⟨x0, x1, x2⟩; kernel_rfl)
def za53 : Ann := ⟨[([0, 1, 0, 1], zl53a)], [], [], zv53, []⟩
def T_slices_IndexFunc_int (a0 : (List Int)) : Tr (Int) :=
  (.two (sh_slices_IndexFunc_int_l1 a0 ((a0.length : Nat) : Int) 0) (fun v2 =>
    (.leaf v2)) (fun v3 =>
    (.leaf (-1))))
def sh_slices_IndexFunc_int (a0 : (List Int)) : Option (Int) := (T_slices_IndexFunc_int a0).run
def zr53 : LQ ((List Int)) := (LQ.skipR (Par.q intsP) (LQ.const (.fn 119 [])))
def qr_slices_IndexFunc_int : LQ (Int) := (Par.q intP)
def F_slices_IndexFunc_int : SpecT := specF 0 zr53 2 [] (fun s => T_slices_IndexFunc_int s) default qr_slices_IndexFunc_int 1 []
theorem ok_slices_IndexFunc_int : SpecOk Tryz.prog 152 (F_slices_IndexFunc_int).spec :=
  specF_ok (A := za53) zh53 Facts.mix Tryz.func152 (c := zc53) (by kernel_rfl) (Lc := 0) ⟨zk53a, trivial⟩ zr53 2 2 [] (fun s => T_slices_IndexFunc_int s) default qr_slices_IndexFunc_int 1 [] [] (by decide) (by kernel_rfl) (by rfl) (by decide) (by decide) (by rfl)
    (by rintro a0; kernel_rfl)

noncomputable def zc54 : Code := Tryz.f118.body.getD .skip
def zv54 : List (List Nat) := [[0, 1], [4]]
noncomputable def zy54 : EnvT := ⟨Tryz.prog, lookT [(152, F_slices_IndexFunc_int)]⟩
theorem zh54 : (zy54).Ok := lookT_ok ⟨ok_slices_IndexFunc_int, trivial⟩
def za54 : Ann := ⟨[], [], [], zv54, []⟩
def T_slices_ContainsFunc_int (a0 : (List Int)) : Tr (Bool) :=
  (.bind (sh_slices_IndexFunc_int a0) fun v1 =>
  (.leaf (decide (v1 ≥ 0))))
def sh_slices_ContainsFunc_int (a0 : (List Int)) : Option (Bool) := (T_slices_ContainsFunc_int a0).run
def zr54 : LQ ((List Int)) := (LQ.skipR (Par.q intsP) (LQ.const (.fn 119 [])))
def qr_slices_ContainsFunc_int : LQ (Bool) := (Par.q boolP)
def F_slices_ContainsFunc_int : SpecT := specF 0 zr54 2 [] (fun s => T_slices_ContainsFunc_int s) default qr_slices_ContainsFunc_int 1 []
theorem ok_slices_ContainsFunc_int : SpecOk Tryz.prog 118 (F_slices_ContainsFunc_int).spec :=
  specF_ok (A := za54) zh54 Facts.mix Tryz.func118 (c := zc54) (by kernel_rfl) (Lc := 0) trivial zr54 2 2 [] (fun s => T_slices_ContainsFunc_int s) default qr_slices_ContainsFunc_int 1 [] [] (by decide) (by kernel_rfl) (by rfl) (by decide) (by decide) (by rfl)
    (by rintro a0; kernel_rfl)

noncomputable def zc55 : Code := Tryz.f68.body.getD .skip
def zv55 : List (List Nat) := [[1], [1, 28], [2], [2]]
noncomputable def zy55 : EnvT := ⟨Tryz.prog, lookT [(118, F_slices_ContainsFunc_int)]⟩
theorem zh55 : (zy55).Ok := lookT_ok ⟨ok_slices_ContainsFunc_int, trivial⟩
def za55 : Ann := ⟨[], [], [], zv55, []⟩
def T_line_Good (a0 : Line) : Tr (Bool) :=
  (.ite ((((((a0.Said.length : Nat) : Int) != ((a0.Due.length : Nat) : Int)) || (decide (((a0.Said.length : Nat) : Int) > 400))) || (decide (a0.Got < 0))) || (decide (a0.Got > ((a0.Said.length : Nat) : Int))))
    (.leaf false)
    (.bind (sh_slices_ContainsFunc_int a0.Due) fun v1 =>
    (.leaf (!v1))))
def sh_line_Good (a0 : Line) : Option (Bool) := (T_line_Good a0).run
def zr55 : LQ (Line) := (Par.q (Par.ofLP lineL))
def qr_line_Good : LQ (Bool) := (Par.q boolP)
def F_line_Good : SpecT := specF 0 zr55 1 [] (fun s => T_line_Good s) default qr_line_Good 1 []
theorem ok_line_Good : SpecOk Tryz.prog 68 (F_line_Good).spec :=
  specF_ok (A := za55) zh55 Facts.mix Tryz.func68 (c := zc55) (by kernel_rfl) (Lc := 0) trivial zr55 1 3 [] (fun s => T_line_Good s) default qr_line_Good 1 [] [] (by decide) (by kernel_rfl) (by rfl) (by decide) (by decide) (by rfl)
    (by rintro a0; kernel_rfl)

noncomputable def zc56 : Code := Tryz.f104.body.getD .skip
def zv56 : List (List Nat) := [[1, 2, 3, 6], [1, 2, 3, 6, 8], [6, 7], [1, 2, 3, 6, 17], [6, 7], [1, 2, 3, 6, 21], [6, 7], [3, 6], [6, 7]]
noncomputable def zy56 : EnvT := ⟨Tryz.prog, lookT [(68, F_line_Good), (148, F_slices_Clone_string), (101, F_slices_Clone_int)]⟩
theorem zh56 : (zy56).Ok := lookT_ok ⟨ok_line_Good, ok_slices_Clone_string, ok_slices_Clone_int, trivial⟩
def za56 : Ann := ⟨[], [], [], zv56, []⟩
def T_line_Say (a0 : Line) (a1 : ByteArray) (a2 : Int) : Tr (Line × Int) :=
  (.bind (sh_line_Good a0) fun v1 =>
  (.ite ((!v1) || (decide (a2 < 0)))
    (.leaf (a0, 2))
    (.ite (a0.Closed)
      (.leaf (a0, 11))
      (.ite (decide (((a0.Said.length : Nat) : Int) ≥ 400))
        (.leaf (a0, 6))
        (.guard ((sh_slices_Clone_string a0.Said).isSome = true)
        (.guard ((Sl.len (.strs ((sh_slices_Clone_string a0.Said).getD default)) + Sl.len (.strs [a1])) * 16 ≤ 140737488355328)
        (.guard ((sh_slices_Clone_int a0.Due).isSome = true)
        (.guard ((Sl.len (.ints ((sh_slices_Clone_int a0.Due).getD default)) + Sl.len (.ints [a2])) * 8 ≤ 140737488355328)
        (.leaf ({ (a0 : Line) with Said := ((sh_slices_Clone_string a0.Said).getD default) ++ [a1], Due := ((sh_slices_Clone_int a0.Due).getD default) ++ [a2] }, 0))))))))))
def sh_line_Say (a0 : Line) (a1 : ByteArray) (a2 : Int) : Option (Line × Int) := (T_line_Say a0 a1 a2).run
def zr56 : LQ (Line × ByteArray × Int) := (LQ.seq (Par.q (Par.ofLP lineL)) (LQ.seq (Par.q strP) (Par.q intP)))
def qr_line_Say : LQ (Line × Int) := (LQ.seq (Par.q (Par.ofLP lineL)) (Par.q intP))
def F_line_Say : SpecT := specF 0 zr56 3 [] (fun s => T_line_Say s.1 s.2.1 s.2.2) default qr_line_Say 2 []
theorem ok_line_Say : SpecOk Tryz.prog 104 (F_line_Say).spec :=
  specF_ok (A := za56) zh56 Facts.mix Tryz.func104 (c := zc56) (by kernel_rfl) (Lc := 0) trivial zr56 3 10 [] (fun s => T_line_Say s.1 s.2.1 s.2.2) default qr_line_Say 2 [] [.pubB 6] (by decide) (by kernel_rfl) (by rfl) (by decide) (by decide) (by rfl)
    (by rintro ⟨a0, a1, a2⟩; kernel_rfl)

end
end Go.Proofs.YtknbejjfejdppaaGreat.Ab
