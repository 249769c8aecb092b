/-
  The functions, each by its tree.
-/
import Derived.Test.YtfmcmcbckhmfaaaFacts
import Derived.Test.YtfmcmcbckhmfaaaAbStructs
import Derived.Test.YtfmcmcbckhmfaaaAbFun
namespace Go.Proofs.Ytfmcmcbckhmfaaa.Ab
open Go Go.RowKit
set_option maxRecDepth 100000
set_option linter.unusedVariables false
set_option linter.unusedSimpArgs false

noncomputable def C_keep_pick : Code := Try.f34.body.getD .skip
noncomputable def live_keep_pick : List (List Nat) := [[0, 1], [0, 1], [0, 1, 9], [0], [4]]
noncomputable def Y_keep_pick : EnvT := ⟨Try.prog, lookT []⟩
theorem hY_keep_pick : (Y_keep_pick).Ok := lookT_ok trivial
noncomputable def A_keep_pick : Ann := ⟨[], [], [], live_keep_pick, []⟩
noncomputable def T_keep_pick (a0 : Int) (a1 : Int) : Tr (Int) :=
  (.guard (a1 ≠ 0)
  (.ite (decide ((Int.tmod a0 a1) < 0))
    (.leaf (IntKind.i64.wrap ((Int.tmod a0 a1) + a1)))
    (.leaf (Int.tmod a0 a1))))
noncomputable def sh_keep_pick (a0 : Int) (a1 : Int) : Option (Int) := (T_keep_pick a0 a1).run
noncomputable def qa_keep_pick : LQ (Int × Int) := (LQ.seq (Par.q intP) (Par.q intP))
noncomputable def qr_keep_pick : LQ (Int) := (Par.q intP)
noncomputable def F_keep_pick : SpecT := specF 0 qa_keep_pick 2 [] (fun s => T_keep_pick s.1 s.2) default qr_keep_pick 1 []
theorem ok_keep_pick : SpecOk Try.prog 34 (F_keep_pick).spec :=
  specF_ok (Y := Y_keep_pick) (A := A_keep_pick) hY_keep_pick Facts.mix Try.func34 (c := C_keep_pick) (by kernel_rfl) (Lc := 0) trivial qa_keep_pick 2 2 [] (fun s => T_keep_pick s.1 s.2) default qr_keep_pick 1 [] [] (by decide) (by kernel_rfl) (by rfl) (by decide) (by decide) (by rfl)
    (by rintro ⟨a0, a1⟩; kernel_rfl)

noncomputable def C_slices_Clone_string : Code := Try.f83.body.getD .skip
noncomputable def live_slices_Clone_string : List (List Nat) := [[0], [0, 4], [2], [2]]
noncomputable def Y_slices_Clone_string : EnvT := ⟨Try.prog, lookT []⟩
theorem hY_slices_Clone_string : (Y_slices_Clone_string).Ok := lookT_ok trivial
noncomputable def A_slices_Clone_string : Ann := ⟨[], [], [], live_slices_Clone_string, []⟩
noncomputable def T_slices_Clone_string (a0 : (List ByteArray)) : Tr ((List ByteArray)) :=
  (.split (Sl.len (.strs a0) = 0) (True)
    (.leaf [])
    (.guard ((Sl.len (.strs []) + Sl.len (.strs a0)) * 16 ≤ 140737488355328)
    (.leaf a0)))
noncomputable def sh_slices_Clone_string (a0 : (List ByteArray)) : Option ((List ByteArray)) := (T_slices_Clone_string a0).run
noncomputable def qa_slices_Clone_string : LQ ((List ByteArray)) := (Par.q strsP)
noncomputable def qr_slices_Clone_string : LQ ((List ByteArray)) := (LQ.skip (LQ.const (.own 0)) (Par.q strsP))
noncomputable def F_slices_Clone_string : SpecT := specF 0 qa_slices_Clone_string 1 [] (fun s => T_slices_Clone_string s) default qr_slices_Clone_string 1 [.rows 9]
theorem ok_slices_Clone_string : SpecOk Try.prog 83 (F_slices_Clone_string).spec :=
  specF_ok (Y := Y_slices_Clone_string) (A := A_slices_Clone_string) hY_slices_Clone_string Facts.mix Try.func83 (c := C_slices_Clone_string) (by kernel_rfl) (Lc := 0) trivial qa_slices_Clone_string 1 5 [] (fun s => T_slices_Clone_string s) default qr_slices_Clone_string 1 [.rows 9] [.nilown 2 9 (.strs [])] (by decide) (by kernel_rfl) (by rfl) (by decide) (by decide) (by rfl)
    (by rintro a0; kernel_rfl)

noncomputable def C_slices_Clone_int : Code := Try.f84.body.getD .skip
noncomputable def live_slices_Clone_int : List (List Nat) := [[0], [0, 4], [2], [2]]
noncomputable def Y_slices_Clone_int : EnvT := ⟨Try.prog, lookT []⟩
theorem hY_slices_Clone_int : (Y_slices_Clone_int).Ok := lookT_ok trivial
noncomputable def A_slices_Clone_int : Ann := ⟨[], [], [], live_slices_Clone_int, []⟩
noncomputable def T_slices_Clone_int (a0 : (List Int)) : Tr ((List Int)) :=
  (.split (Sl.len (.ints a0) = 0) (True)
    (.leaf [])
    (.guard ((Sl.len (.ints []) + Sl.len (.ints a0)) * 8 ≤ 140737488355328)
    (.leaf a0)))
noncomputable def sh_slices_Clone_int (a0 : (List Int)) : Option ((List Int)) := (T_slices_Clone_int a0).run
noncomputable def qa_slices_Clone_int : LQ ((List Int)) := (Par.q intsP)
noncomputable def qr_slices_Clone_int : LQ ((List Int)) := (LQ.skip (LQ.const (.own 0)) (Par.q intsP))
noncomputable def F_slices_Clone_int : SpecT := specF 0 qa_slices_Clone_int 1 [] (fun s => T_slices_Clone_int s) default qr_slices_Clone_int 1 [.rows 3]
theorem ok_slices_Clone_int : SpecOk Try.prog 84 (F_slices_Clone_int).spec :=
  specF_ok (Y := Y_slices_Clone_int) (A := A_slices_Clone_int) hY_slices_Clone_int Facts.mix Try.func84 (c := C_slices_Clone_int) (by kernel_rfl) (Lc := 0) trivial qa_slices_Clone_int 1 5 [] (fun s => T_slices_Clone_int s) default qr_slices_Clone_int 1 [.rows 3] [.nilown 2 3 (.ints [])] (by decide) (by kernel_rfl) (by rfl) (by decide) (by decide) (by rfl)
    (by rintro a0; kernel_rfl)

noncomputable def C_line_Good_1 : Code := Try.f87.body.getD .skip
noncomputable def live_line_Good_1 : List (List Nat) := [[0], [2]]
noncomputable def Y_line_Good_1 : EnvT := ⟨Try.prog, lookT []⟩
theorem hY_line_Good_1 : (Y_line_Good_1).Ok := lookT_ok trivial
noncomputable def A_line_Good_1 : Ann := ⟨[], [], [], live_line_Good_1, []⟩
noncomputable def T_line_Good_1 (a0 : Int) : Tr (Bool) :=
  (.leaf (decide (a0 < 0)))
noncomputable def sh_line_Good_1 (a0 : Int) : Option (Bool) := (T_line_Good_1 a0).run
noncomputable def qa_line_Good_1 : LQ (Int) := (Par.q intP)
noncomputable def qr_line_Good_1 : LQ (Bool) := (Par.q boolP)
noncomputable def F_line_Good_1 : SpecT := specF 0 qa_line_Good_1 1 [] (fun s => T_line_Good_1 s) default qr_line_Good_1 1 []
theorem ok_line_Good_1 : SpecOk Try.prog 87 (F_line_Good_1).spec :=
  specF_ok (Y := Y_line_Good_1) (A := A_line_Good_1) hY_line_Good_1 Facts.mix Try.func87 (c := C_line_Good_1) (by kernel_rfl) (Lc := 0) trivial qa_line_Good_1 1 2 [] (fun s => T_line_Good_1 s) default qr_line_Good_1 1 [] [] (by decide) (by kernel_rfl) (by rfl) (by decide) (by decide) (by rfl)
    (by rintro a0; kernel_rfl)

noncomputable def C_slices_IndexFunc_int : Code := Try.f107.body.getD .skip
noncomputable def live_slices_IndexFunc_int : List (List Nat) := [[0, 1], [0, 1, 7, 8], [0, 1, 7, 8, 9], [0, 1, 5, 7, 8], [0, 1, 5, 7, 8, 16], [4], [0, 1, 7, 8], [4]]
noncomputable def Y_slices_IndexFunc_int : EnvT := ⟨Try.prog, lookT [(87, F_line_Good_1)]⟩
theorem hY_slices_IndexFunc_int : (Y_slices_IndexFunc_int).Ok := lookT_ok ⟨ok_line_Good_1, trivial⟩
noncomputable def T_slices_IndexFunc_int_l1 (x0 : (List Int)) (x1 : Int) (x2 : Int) : Tr (((List Int) × Int × Int) ⊕ ((Int) ⊕ (Unit))) :=
  (.ite (decide (x2 < x1))
    (.guard ((0 : Int) ≤ x2 ∧ x2 < ((Sl.len (.ints x0) : Nat) : Int))
    (.bind (sh_line_Good_1 (x0.getD x2.toNat 0)) fun v1 =>
    (.ite (v1)
      (.leaf (.inr (.inl x2)))
      (.leaf (.inl (x0, x1, IntKind.i64.wrap (x2 + 1)))))))
    (.leaf (.inr (.inr ()))))
noncomputable def sh_slices_IndexFunc_int_l1 (x0 : (List Int)) (x1 : Int) (x2 : Int) : Option ((Int) ⊕ (Unit)) := iter (fun s : (List Int) × Int × Int => (T_slices_IndexFunc_int_l1 s.1 s.2.1 s.2.2).run) (x0, x1, x2)
noncomputable def A_slices_IndexFunc_int_l1 : Ann := ⟨[], [], [], live_slices_IndexFunc_int, []⟩
noncomputable def q_slices_IndexFunc_int_l1 : LQ ((List Int) × Int × Int) := (LQ.seq (Par.q intsP) (LQ.skip (LQ.const (.fn 87 [])) (LQ.seq (Par.q intP) (Par.q intP))))
noncomputable def p_slices_IndexFunc_int_l1 : Pat := ⟨[0, 1, 7, 8], [.pub 0, .nilsl 0 (.ints [])]⟩
noncomputable def s_slices_IndexFunc_int_l1 : List BS := []
noncomputable def q_slices_IndexFunc_int_l1_e0 : LQ (Int) := (Par.q intP)
noncomputable def p_slices_IndexFunc_int_l1_e0 : Pat := ⟨[4], []⟩
noncomputable def s_slices_IndexFunc_int_l1_e0 : List BS := []
noncomputable def q_slices_IndexFunc_int_l1_e1 : LQ (Unit) := LQ.nil
noncomputable def p_slices_IndexFunc_int_l1_e1 : Pat := ⟨[], []⟩
noncomputable def s_slices_IndexFunc_int_l1_e1 : List BS := []
noncomputable def L_slices_IndexFunc_int_l1 : St → Option LR := pieceL q_slices_IndexFunc_int_l1 19 0 p_slices_IndexFunc_int_l1 s_slices_IndexFunc_int_l1 (fun o => LR.two o (fun r => (.ret, stP q_slices_IndexFunc_int_l1_e0 19 2 p_slices_IndexFunc_int_l1_e0 s_slices_IndexFunc_int_l1_e0 r)) (fun r => (.exit 0, stP q_slices_IndexFunc_int_l1_e1 19 2 p_slices_IndexFunc_int_l1_e1 s_slices_IndexFunc_int_l1_e1 r))) (fun a => iter (fun s : (List Int) × Int × Int => (T_slices_IndexFunc_int_l1 s.1 s.2.1 s.2.2).run) a)
noncomputable def E_slices_IndexFunc_int_l1 : Exit → Option (End (((List Int) × Int × Int) ⊕ ((Int) ⊕ (Unit))))
  | .normal => some ⟨_, q_slices_IndexFunc_int_l1, p_slices_IndexFunc_int_l1, s_slices_IndexFunc_int_l1, fun b => .inl b⟩
  | .ret => some ⟨_, q_slices_IndexFunc_int_l1_e0, p_slices_IndexFunc_int_l1_e0, s_slices_IndexFunc_int_l1_e0, fun b => .inr (.inl b)⟩
  | .exit 0 => some ⟨_, q_slices_IndexFunc_int_l1_e1, p_slices_IndexFunc_int_l1_e1, s_slices_IndexFunc_int_l1_e1, fun b => .inr (.inr b)⟩
  | _ => none
noncomputable def O_slices_IndexFunc_int_l1 : (((List Int) × Int × Int) ⊕ ((Int) ⊕ (Unit))) → Exit × St
  | .inl b => (.normal, stP q_slices_IndexFunc_int_l1 19 2 p_slices_IndexFunc_int_l1 s_slices_IndexFunc_int_l1 b)
  | .inr (.inl b) => (.ret, stP q_slices_IndexFunc_int_l1_e0 19 2 p_slices_IndexFunc_int_l1_e0 s_slices_IndexFunc_int_l1_e0 b)
  | .inr (.inr b) => (.exit 0, stP q_slices_IndexFunc_int_l1_e1 19 2 p_slices_IndexFunc_int_l1_e1 s_slices_IndexFunc_int_l1_e1 b)
theorem lok_slices_IndexFunc_int_l1 : PieceOk (Y_slices_IndexFunc_int).env 0 (sub C_slices_IndexFunc_int [0, 1, 0, 1]) L_slices_IndexFunc_int_l1 :=
  loop_ok (Y := Y_slices_IndexFunc_int) (A := A_slices_IndexFunc_int_l1) hY_slices_IndexFunc_int Facts.mix (root := C_slices_IndexFunc_int) (L := 0) trivial (π := [0, 1, 0, 1]) (c := loopB (sub C_slices_IndexFunc_int [0, 1, 0, 1])) (by kernel_rfl) q_slices_IndexFunc_int_l1 19 2 p_slices_IndexFunc_int_l1 s_slices_IndexFunc_int_l1 E_slices_IndexFunc_int_l1 (fun s => T_slices_IndexFunc_int_l1 s.1 s.2.1 s.2.2) O_slices_IndexFunc_int_l1 (by intro e d h b; unfold E_slices_IndexFunc_int_l1 at h; split at h <;> first | (cases h; rfl) | cases h) (fun _ => rfl) (by intro r; cases r <;> exact (fun h => by cases h)) (fun o => LR.two o (fun r => (.ret, stP q_slices_IndexFunc_int_l1_e0 19 2 p_slices_IndexFunc_int_l1_e0 s_slices_IndexFunc_int_l1_e0 r)) (fun r => (.exit 0, stP q_slices_IndexFunc_int_l1_e1 19 2 p_slices_IndexFunc_int_l1_e1 s_slices_IndexFunc_int_l1_e1 r))) (by intro o Q h; exact Or.elim h (fun ⟨v, h1, h2⟩ => ⟨_, h1, h2⟩) (fun ⟨v, h1, h2⟩ => ⟨_, h1, h2⟩))
    (by rintro ⟨x0, x1, x2⟩; kernel_rfl)
noncomputable def A_slices_IndexFunc_int : Ann := ⟨[([0, 1, 0, 1], L_slices_IndexFunc_int_l1)], [], [], live_slices_IndexFunc_int, []⟩
noncomputable def T_slices_IndexFunc_int (a0 : (List Int)) : Tr (Int) :=
  (.two (sh_slices_IndexFunc_int_l1 a0 ((a0.length : Nat) : Int) 0) (fun v2 =>
    (.leaf v2)) (fun v3 =>
    (.leaf (-1))))
noncomputable def sh_slices_IndexFunc_int (a0 : (List Int)) : Option (Int) := (T_slices_IndexFunc_int a0).run
noncomputable def qa_slices_IndexFunc_int : LQ ((List Int)) := (LQ.skipR (Par.q intsP) (LQ.const (.fn 87 [])))
noncomputable def qr_slices_IndexFunc_int : LQ (Int) := (Par.q intP)
noncomputable def F_slices_IndexFunc_int : SpecT := specF 0 qa_slices_IndexFunc_int 2 [] (fun s => T_slices_IndexFunc_int s) default qr_slices_IndexFunc_int 1 []
theorem ok_slices_IndexFunc_int : SpecOk Try.prog 107 (F_slices_IndexFunc_int).spec :=
  specF_ok (Y := Y_slices_IndexFunc_int) (A := A_slices_IndexFunc_int) hY_slices_IndexFunc_int Facts.mix Try.func107 (c := C_slices_IndexFunc_int) (by kernel_rfl) (Lc := 0) ⟨lok_slices_IndexFunc_int_l1, trivial⟩ qa_slices_IndexFunc_int 2 2 [] (fun s => T_slices_IndexFunc_int s) default qr_slices_IndexFunc_int 1 [] [] (by decide) (by kernel_rfl) (by rfl) (by decide) (by decide) (by rfl)
    (by rintro a0; kernel_rfl)

noncomputable def C_slices_ContainsFunc_int : Code := Try.f86.body.getD .skip
noncomputable def live_slices_ContainsFunc_int : List (List Nat) := [[0, 1], [4]]
noncomputable def Y_slices_ContainsFunc_int : EnvT := ⟨Try.prog, lookT [(107, F_slices_IndexFunc_int)]⟩
theorem hY_slices_ContainsFunc_int : (Y_slices_ContainsFunc_int).Ok := lookT_ok ⟨ok_slices_IndexFunc_int, trivial⟩
noncomputable def A_slices_ContainsFunc_int : Ann := ⟨[], [], [], live_slices_ContainsFunc_int, []⟩
noncomputable def T_slices_ContainsFunc_int (a0 : (List Int)) : Tr (Bool) :=
  (.bind (sh_slices_IndexFunc_int a0) fun v1 =>
  (.leaf (decide (v1 ≥ 0))))
noncomputable def sh_slices_ContainsFunc_int (a0 : (List Int)) : Option (Bool) := (T_slices_ContainsFunc_int a0).run
noncomputable def qa_slices_ContainsFunc_int : LQ ((List Int)) := (LQ.skipR (Par.q intsP) (LQ.const (.fn 87 [])))
noncomputable def qr_slices_ContainsFunc_int : LQ (Bool) := (Par.q boolP)
noncomputable def F_slices_ContainsFunc_int : SpecT := specF 0 qa_slices_ContainsFunc_int 2 [] (fun s => T_slices_ContainsFunc_int s) default qr_slices_ContainsFunc_int 1 []
theorem ok_slices_ContainsFunc_int : SpecOk Try.prog 86 (F_slices_ContainsFunc_int).spec :=
  specF_ok (Y := Y_slices_ContainsFunc_int) (A := A_slices_ContainsFunc_int) hY_slices_ContainsFunc_int Facts.mix Try.func86 (c := C_slices_ContainsFunc_int) (by kernel_rfl) (Lc := 0) trivial qa_slices_ContainsFunc_int 2 2 [] (fun s => T_slices_ContainsFunc_int s) default qr_slices_ContainsFunc_int 1 [] [] (by decide) (by kernel_rfl) (by rfl) (by decide) (by decide) (by rfl)
    (by rintro a0; kernel_rfl)

noncomputable def C_line_Good : Code := Try.f40.body.getD .skip
noncomputable def live_line_Good : List (List Nat) := [[1], [1, 28], [2], [2]]
noncomputable def Y_line_Good : EnvT := ⟨Try.prog, lookT [(86, F_slices_ContainsFunc_int)]⟩
theorem hY_line_Good : (Y_line_Good).Ok := lookT_ok ⟨ok_slices_ContainsFunc_int, trivial⟩
noncomputable def A_line_Good : Ann := ⟨[], [], [], live_line_Good, []⟩
noncomputable def T_line_Good (a0 : Line) : Tr (Bool) :=
  (.ite ((((((a0.Said.length : Nat) : Int) != ((a0.Due.length : Nat) : Int)) || (decide (((a0.Said.length : Nat) : Int) > 400))) || (decide (a0.Got < 0))) || (decide (a0.Got > ((a0.Said.length : Nat) : Int))))
    (.leaf false)
    (.bind (sh_slices_ContainsFunc_int a0.Due) fun v1 =>
    (.leaf (!v1))))
noncomputable def sh_line_Good (a0 : Line) : Option (Bool) := (T_line_Good a0).run
noncomputable def qa_line_Good : LQ (Line) := (Par.q (Par.ofLP lineL))
noncomputable def qr_line_Good : LQ (Bool) := (Par.q boolP)
noncomputable def F_line_Good : SpecT := specF 0 qa_line_Good 1 [] (fun s => T_line_Good s) default qr_line_Good 1 []
theorem ok_line_Good : SpecOk Try.prog 40 (F_line_Good).spec :=
  specF_ok (Y := Y_line_Good) (A := A_line_Good) hY_line_Good Facts.mix Try.func40 (c := C_line_Good) (by kernel_rfl) (Lc := 0) trivial qa_line_Good 1 3 [] (fun s => T_line_Good s) default qr_line_Good 1 [] [] (by decide) (by kernel_rfl) (by rfl) (by decide) (by decide) (by rfl)
    (by rintro a0; kernel_rfl)

noncomputable def C_line_Say : Code := Try.f37.body.getD .skip
noncomputable def live_line_Say : List (List Nat) := [[1, 2, 3, 6], [1, 2, 3, 6, 8], [6, 7], [1, 2, 3, 6, 17], [6, 7], [1, 2, 3, 6, 21], [6, 7], [3, 6], [6, 7]]
noncomputable def Y_line_Say : EnvT := ⟨Try.prog, lookT [(40, F_line_Good), (83, F_slices_Clone_string), (84, F_slices_Clone_int)]⟩
theorem hY_line_Say : (Y_line_Say).Ok := lookT_ok ⟨ok_line_Good, ok_slices_Clone_string, ok_slices_Clone_int, trivial⟩
noncomputable def A_line_Say : Ann := ⟨[], [], [], live_line_Say, []⟩
noncomputable def T_line_Say (a0 : Line) (a1 : ByteArray) (a2 : Int) : Tr (Line × Int) :=
  (.bind (sh_line_Good a0) fun v1 =>
  (.ite ((!v1) || (decide (a2 < 0)))
    (.leaf (a0, 2))
    (.ite (a0.Closed)
      (.leaf (a0, 11))
      (.ite (decide (((a0.Said.length : Nat) : Int) ≥ 400))
        (.leaf (a0, 6))
        (.guard ((sh_slices_Clone_string a0.Said).isSome = true)
        (.guard ((Sl.len (.strs ((sh_slices_Clone_string a0.Said).getD default)) + Sl.len (.strs [a1])) * 16 ≤ 140737488355328)
        (.guard ((sh_slices_Clone_int a0.Due).isSome = true)
        (.guard ((Sl.len (.ints ((sh_slices_Clone_int a0.Due).getD default)) + Sl.len (.ints [a2])) * 8 ≤ 140737488355328)
        (.leaf ({ (a0 : Line) with Said := ((sh_slices_Clone_string a0.Said).getD default) ++ [a1], Due := ((sh_slices_Clone_int a0.Due).getD default) ++ [a2] }, 0))))))))))
noncomputable def sh_line_Say (a0 : Line) (a1 : ByteArray) (a2 : Int) : Option (Line × Int) := (T_line_Say a0 a1 a2).run
noncomputable def qa_line_Say : LQ (Line × ByteArray × Int) := (LQ.seq (Par.q (Par.ofLP lineL)) (LQ.seq (Par.q strP) (Par.q intP)))
noncomputable def qr_line_Say : LQ (Line × Int) := (LQ.seq (Par.q (Par.ofLP lineL)) (Par.q intP))
noncomputable def F_line_Say : SpecT := specF 0 qa_line_Say 3 [] (fun s => T_line_Say s.1 s.2.1 s.2.2) default qr_line_Say 2 []
theorem ok_line_Say : SpecOk Try.prog 37 (F_line_Say).spec :=
  specF_ok (Y := Y_line_Say) (A := A_line_Say) hY_line_Say Facts.mix Try.func37 (c := C_line_Say) (by kernel_rfl) (Lc := 0) trivial qa_line_Say 3 10 [] (fun s => T_line_Say s.1 s.2.1 s.2.2) default qr_line_Say 2 [] [.pubB 6] (by decide) (by kernel_rfl) (by rfl) (by decide) (by decide) (by rfl)
    (by rintro ⟨a0, a1, a2⟩; kernel_rfl)

noncomputable def C_line_Deliver : Code := Try.f55.body.getD .skip
noncomputable def live_line_Deliver : List (List Nat) := [[1, 2, 3, 4, 5, 10], [1, 2, 3, 4, 5, 10, 12], [10, 11], [1, 2, 3, 4, 5, 10, 17], [10, 11], [1, 2, 3, 4, 5, 10, 21], [10, 11], [1, 4, 5, 10, 28], [10, 11], [1, 5, 10, 50], [10, 11], [5, 10], [10, 11]]
noncomputable def Y_line_Deliver : EnvT := ⟨Try.prog, lookT [(40, F_line_Good)]⟩
theorem hY_line_Deliver : (Y_line_Deliver).Ok := lookT_ok ⟨ok_line_Good, trivial⟩
noncomputable def A_line_Deliver : Ann := ⟨[], [], [], live_line_Deliver, []⟩
noncomputable def T_line_Deliver (a0 : Line) (a1 : Int) (a2 : ByteArray) (a3 : Int) (a4 : Int) : Tr (Line × Int) :=
  (.bind (sh_line_Good a0) fun v1 =>
  (.ite (!v1)
    (.leaf (a0, 2))
    (.ite (a0.Closed)
      (.leaf (a0, 11))
      (.ite (a1 != (IntKind.i64.wrap (a0.Got + 1)))
        (.leaf (a0, 10))
        (.guard ((((decide (a1 > a3)) || (decide (a1 > ((a0.Said.length : Nat) : Int)))) = false → ((0 : Int) ≤ (IntKind.i64.wrap (a1 - 1)) ∧ (IntKind.i64.wrap (a1 - 1)) < ((Sl.len (.strs a0.Said) : Nat) : Int)) ∧ True))
        (.ite (((decide (a1 > a3)) || (decide (a1 > ((a0.Said.length : Nat) : Int)))) || (!((a0.Said.getD ((IntKind.i64.wrap (a1 - 1)).toNat) .empty).toList == a2.toList)))
          (.leaf (a0, 9))
          (.guard ((0 : Int) ≤ (IntKind.i64.wrap (a1 - 1)) ∧ (IntKind.i64.wrap (a1 - 1)) < ((Sl.len (.ints a0.Due) : Nat) : Int))
          (.ite (decide (a4 ≥ (a0.Due.getD ((IntKind.i64.wrap (a1 - 1)).toNat) 0)))
            (.leaf (a0, 12))
            (.leaf ({ (a0 : Line) with Got := a1 }, 0))))))))))
noncomputable def sh_line_Deliver (a0 : Line) (a1 : Int) (a2 : ByteArray) (a3 : Int) (a4 : Int) : Option (Line × Int) := (T_line_Deliver a0 a1 a2 a3 a4).run
noncomputable def qa_line_Deliver : LQ (Line × Int × ByteArray × Int × Int) := (LQ.seq (Par.q (Par.ofLP lineL)) (LQ.seq (Par.q intP) (LQ.seq (Par.q strP) (LQ.seq (Par.q intP) (Par.q intP)))))
noncomputable def qr_line_Deliver : LQ (Line × Int) := (LQ.seq (Par.q (Par.ofLP lineL)) (Par.q intP))
noncomputable def F_line_Deliver : SpecT := specF 0 qa_line_Deliver 5 [] (fun s => T_line_Deliver s.1 s.2.1 s.2.2.1 s.2.2.2.1 s.2.2.2.2) default qr_line_Deliver 2 []
theorem ok_line_Deliver : SpecOk Try.prog 55 (F_line_Deliver).spec :=
  specF_ok (Y := Y_line_Deliver) (A := A_line_Deliver) hY_line_Deliver Facts.mix Try.func55 (c := C_line_Deliver) (by kernel_rfl) (Lc := 0) trivial qa_line_Deliver 5 4 [] (fun s => T_line_Deliver s.1 s.2.1 s.2.2.1 s.2.2.2.1 s.2.2.2.2) default qr_line_Deliver 2 [] [.pubB 10] (by decide) (by kernel_rfl) (by rfl) (by decide) (by decide) (by rfl)
    (by rintro ⟨a0, a1, a2, a3, a4⟩; kernel_rfl)

noncomputable def C_line_Expire : Code := Try.f57.body.getD .skip
noncomputable def live_line_Expire : List (List Nat) := [[1, 2, 3, 4, 8], [1, 2, 3, 4, 8, 10], [8, 9], [1, 2, 3, 4, 8, 15], [8, 9], [1, 2, 3, 4, 8, 19], [8, 9], [1, 2, 4, 8, 30], [8, 9], [4, 8, 35], [8, 9], [4, 8], [8, 9]]
noncomputable def Y_line_Expire : EnvT := ⟨Try.prog, lookT [(40, F_line_Good)]⟩
theorem hY_line_Expire : (Y_line_Expire).Ok := lookT_ok ⟨ok_line_Good, trivial⟩
noncomputable def A_line_Expire : Ann := ⟨[], [], [], live_line_Expire, []⟩
noncomputable def T_line_Expire (a0 : Line) (a1 : Int) (a2 : Int) (a3 : Int) : Tr (Line × Int) :=
  (.bind (sh_line_Good a0) fun v1 =>
  (.ite (!v1)
    (.leaf (a0, 2))
    (.ite (a0.Closed)
      (.leaf (a0, 11))
      (.ite ((decide (a1 < 1)) || (decide (a1 > ((a0.Said.length : Nat) : Int))))
        (.leaf (a0, 4))
        (.ite (decide (a1 ≤ a3))
          (.leaf (a0, 5))
          (.guard ((0 : Int) ≤ (IntKind.i64.wrap (a1 - 1)) ∧ (IntKind.i64.wrap (a1 - 1)) < ((Sl.len (.ints a0.Due) : Nat) : Int))
          (.ite (decide (a2 < (a0.Due.getD ((IntKind.i64.wrap (a1 - 1)).toNat) 0)))
            (.leaf (a0, 13))
            (.leaf ({ (a0 : Line) with Closed := true }, 0)))))))))
noncomputable def sh_line_Expire (a0 : Line) (a1 : Int) (a2 : Int) (a3 : Int) : Option (Line × Int) := (T_line_Expire a0 a1 a2 a3).run
noncomputable def qa_line_Expire : LQ (Line × Int × Int × Int) := (LQ.seq (Par.q (Par.ofLP lineL)) (LQ.seq (Par.q intP) (LQ.seq (Par.q intP) (Par.q intP))))
noncomputable def qr_line_Expire : LQ (Line × Int) := (LQ.seq (Par.q (Par.ofLP lineL)) (Par.q intP))
noncomputable def F_line_Expire : SpecT := specF 0 qa_line_Expire 4 [] (fun s => T_line_Expire s.1 s.2.1 s.2.2.1 s.2.2.2) default qr_line_Expire 2 []
theorem ok_line_Expire : SpecOk Try.prog 57 (F_line_Expire).spec :=
  specF_ok (Y := Y_line_Expire) (A := A_line_Expire) hY_line_Expire Facts.mix Try.func57 (c := C_line_Expire) (by kernel_rfl) (Lc := 0) trivial qa_line_Expire 4 4 [] (fun s => T_line_Expire s.1 s.2.1 s.2.2.1 s.2.2.2) default qr_line_Expire 2 [] [.pubB 8] (by decide) (by kernel_rfl) (by rfl) (by decide) (by decide) (by rfl)
    (by rintro ⟨a0, a1, a2, a3⟩; kernel_rfl)

noncomputable def C_ref_SameNumbers : Code := Try.f85.body.getD .skip
noncomputable def live_ref_SameNumbers : List (List Nat) := [[0, 1], [0, 1, 10], [4], [0, 1, 12, 13], [0, 1, 12, 13, 14], [0, 1, 5, 12, 13], [0, 1, 12, 13, 24], [4], [0, 1, 12, 13], [4]]
noncomputable def Y_ref_SameNumbers : EnvT := ⟨Try.prog, lookT []⟩
theorem hY_ref_SameNumbers : (Y_ref_SameNumbers).Ok := lookT_ok trivial
noncomputable def T_ref_SameNumbers_l1 (x0 : (List Int)) (x1 : (List Int)) (x2 : Int) (x3 : Int) : Tr (((List Int) × (List Int) × Int × Int) ⊕ ((Bool) ⊕ (Unit))) :=
  (.ite (decide (x3 < x2))
    (.guard ((0 : Int) ≤ x3 ∧ x3 < ((Sl.len (.ints x0) : Nat) : Int))
    (.guard ((0 : Int) ≤ x3 ∧ x3 < ((Sl.len (.ints x1) : Nat) : Int))
    (.ite ((x0.getD x3.toNat 0) != (x1.getD x3.toNat 0))
      (.leaf (.inr (.inl false)))
      (.leaf (.inl (x0, x1, x2, IntKind.i64.wrap (x3 + 1)))))))
    (.leaf (.inr (.inr ()))))
noncomputable def sh_ref_SameNumbers_l1 (x0 : (List Int)) (x1 : (List Int)) (x2 : Int) (x3 : Int) : Option ((Bool) ⊕ (Unit)) := iter (fun s : (List Int) × (List Int) × Int × Int => (T_ref_SameNumbers_l1 s.1 s.2.1 s.2.2.1 s.2.2.2).run) (x0, x1, x2, x3)
noncomputable def A_ref_SameNumbers_l1 : Ann := ⟨[], [], [], live_ref_SameNumbers, []⟩
noncomputable def q_ref_SameNumbers_l1 : LQ ((List Int) × (List Int) × Int × Int) := (LQ.seq (Par.q intsP) (LQ.seq (Par.q intsP) (LQ.seq (Par.q intP) (Par.q intP))))
noncomputable def p_ref_SameNumbers_l1 : Pat := ⟨[0, 1, 12, 13], [.pub 0, .nilsl 0 (.ints []), .pub 1, .nilsl 1 (.ints [])]⟩
noncomputable def s_ref_SameNumbers_l1 : List BS := []
noncomputable def q_ref_SameNumbers_l1_e0 : LQ (Bool) := (Par.q boolP)
noncomputable def p_ref_SameNumbers_l1_e0 : Pat := ⟨[4], []⟩
noncomputable def s_ref_SameNumbers_l1_e0 : List BS := []
noncomputable def q_ref_SameNumbers_l1_e1 : LQ (Unit) := LQ.nil
noncomputable def p_ref_SameNumbers_l1_e1 : Pat := ⟨[], []⟩
noncomputable def s_ref_SameNumbers_l1_e1 : List BS := []
noncomputable def L_ref_SameNumbers_l1 : St → Option LR := pieceL q_ref_SameNumbers_l1 26 0 p_ref_SameNumbers_l1 s_ref_SameNumbers_l1 (fun o => LR.two o (fun r => (.ret, stP q_ref_SameNumbers_l1_e0 26 2 p_ref_SameNumbers_l1_e0 s_ref_SameNumbers_l1_e0 r)) (fun r => (.exit 0, stP q_ref_SameNumbers_l1_e1 26 2 p_ref_SameNumbers_l1_e1 s_ref_SameNumbers_l1_e1 r))) (fun a => iter (fun s : (List Int) × (List Int) × Int × Int => (T_ref_SameNumbers_l1 s.1 s.2.1 s.2.2.1 s.2.2.2).run) a)
noncomputable def E_ref_SameNumbers_l1 : Exit → Option (End (((List Int) × (List Int) × Int × Int) ⊕ ((Bool) ⊕ (Unit))))
  | .normal => some ⟨_, q_ref_SameNumbers_l1, p_ref_SameNumbers_l1, s_ref_SameNumbers_l1, fun b => .inl b⟩
  | .ret => some ⟨_, q_ref_SameNumbers_l1_e0, p_ref_SameNumbers_l1_e0, s_ref_SameNumbers_l1_e0, fun b => .inr (.inl b)⟩
  | .exit 0 => some ⟨_, q_ref_SameNumbers_l1_e1, p_ref_SameNumbers_l1_e1, s_ref_SameNumbers_l1_e1, fun b => .inr (.inr b)⟩
  | _ => none
noncomputable def O_ref_SameNumbers_l1 : (((List Int) × (List Int) × Int × Int) ⊕ ((Bool) ⊕ (Unit))) → Exit × St
  | .inl b => (.normal, stP q_ref_SameNumbers_l1 26 2 p_ref_SameNumbers_l1 s_ref_SameNumbers_l1 b)
  | .inr (.inl b) => (.ret, stP q_ref_SameNumbers_l1_e0 26 2 p_ref_SameNumbers_l1_e0 s_ref_SameNumbers_l1_e0 b)
  | .inr (.inr b) => (.exit 0, stP q_ref_SameNumbers_l1_e1 26 2 p_ref_SameNumbers_l1_e1 s_ref_SameNumbers_l1_e1 b)
theorem lok_ref_SameNumbers_l1 : PieceOk (Y_ref_SameNumbers).env 0 (sub C_ref_SameNumbers [0, 1, 0, 1, 1]) L_ref_SameNumbers_l1 :=
  loop_ok (Y := Y_ref_SameNumbers) (A := A_ref_SameNumbers_l1) hY_ref_SameNumbers Facts.mix (root := C_ref_SameNumbers) (L := 0) trivial (π := [0, 1, 0, 1, 1]) (c := loopB (sub C_ref_SameNumbers [0, 1, 0, 1, 1])) (by kernel_rfl) q_ref_SameNumbers_l1 26 2 p_ref_SameNumbers_l1 s_ref_SameNumbers_l1 E_ref_SameNumbers_l1 (fun s => T_ref_SameNumbers_l1 s.1 s.2.1 s.2.2.1 s.2.2.2) O_ref_SameNumbers_l1 (by intro e d h b; unfold E_ref_SameNumbers_l1 at h; split at h <;> first | (cases h; rfl) | cases h) (fun _ => rfl) (by intro r; cases r <;> exact (fun h => by cases h)) (fun o => LR.two o (fun r => (.ret, stP q_ref_SameNumbers_l1_e0 26 2 p_ref_SameNumbers_l1_e0 s_ref_SameNumbers_l1_e0 r)) (fun r => (.exit 0, stP q_ref_SameNumbers_l1_e1 26 2 p_ref_SameNumbers_l1_e1 s_ref_SameNumbers_l1_e1 r))) (by intro o Q h; exact Or.elim h (fun ⟨v, h1, h2⟩ => ⟨_, h1, h2⟩) (fun ⟨v, h1, h2⟩ => ⟨_, h1, h2⟩))
    (by rintro ⟨x0, x1, x2, x3⟩; kernel_rfl)
noncomputable def A_ref_SameNumbers : Ann := ⟨[([0, 1, 0, 1, 1], L_ref_SameNumbers_l1)], [], [], live_ref_SameNumbers, []⟩
noncomputable def T_ref_SameNumbers (a0 : (List Int)) (a1 : (List Int)) : Tr (Bool) :=
  (.ite (((a0.length : Nat) : Int) != ((a1.length : Nat) : Int))
    (.leaf false)
    (.two (sh_ref_SameNumbers_l1 a0 a1 ((a0.length : Nat) : Int) 0) (fun v1 =>
      (.leaf v1)) (fun v2 =>
      (.leaf true))))
noncomputable def sh_ref_SameNumbers (a0 : (List Int)) (a1 : (List Int)) : Option (Bool) := (T_ref_SameNumbers a0 a1).run
noncomputable def qa_ref_SameNumbers : LQ ((List Int) × (List Int)) := (LQ.seq (Par.q intsP) (Par.q intsP))
noncomputable def qr_ref_SameNumbers : LQ (Bool) := (Par.q boolP)
noncomputable def F_ref_SameNumbers : SpecT := specF 0 qa_ref_SameNumbers 2 [] (fun s => T_ref_SameNumbers s.1 s.2) default qr_ref_SameNumbers 1 []
theorem ok_ref_SameNumbers : SpecOk Try.prog 85 (F_ref_SameNumbers).spec :=
  specF_ok (Y := Y_ref_SameNumbers) (A := A_ref_SameNumbers) hY_ref_SameNumbers Facts.mix Try.func85 (c := C_ref_SameNumbers) (by kernel_rfl) (Lc := 0) ⟨lok_ref_SameNumbers_l1, trivial⟩ qa_ref_SameNumbers 2 2 [] (fun s => T_ref_SameNumbers s.1 s.2) default qr_ref_SameNumbers 1 [] [] (by decide) (by kernel_rfl) (by rfl) (by decide) (by decide) (by rfl)
    (by rintro ⟨a0, a1⟩; kernel_rfl)

noncomputable def C_ref_CopyLine : Code := Try.f36.body.getD .skip
noncomputable def live_ref_CopyLine : List (List Nat) := [[1, 2], [1, 2], [2]]
noncomputable def Y_ref_CopyLine : EnvT := ⟨Try.prog, lookT []⟩
theorem hY_ref_CopyLine : (Y_ref_CopyLine).Ok := lookT_ok trivial
noncomputable def A_ref_CopyLine : Ann := ⟨[], [], [], live_ref_CopyLine, []⟩
noncomputable def T_ref_CopyLine (a0 : Line) : Tr (Line) :=
  (.guard ((0 + Sl.len (.strs a0.Said)) * 16 ≤ 140737488355328)
  (.guard ((0 + Sl.len (.ints a0.Due)) * 8 ≤ 140737488355328)
  (.leaf a0)))
noncomputable def sh_ref_CopyLine (a0 : Line) : Option (Line) := (T_ref_CopyLine a0).run
noncomputable def qa_ref_CopyLine : LQ (Line) := (Par.q (Par.ofLP lineL))
noncomputable def qr_ref_CopyLine : LQ (Line) := (LQ.map (LQ.seq (LQ.agg (LQ.skip (LQ.const (.own 0)) (LQ.skip (LQ.const (.own 1)) (LQ.seq (Par.q intP) (Par.q boolP))))) (LQ.seq (Par.q strsP) (Par.q intsP))) (fun x : (Int × Bool) × (List ByteArray) × (List Int) => ((⟨x.2.1, x.2.2, x.1.1, x.1.2⟩ : Line) : Line)) (fun y => ((y.Got, y.Closed), y.Said, y.Due)) (fun _ => rfl))
noncomputable def F_ref_CopyLine : SpecT := specF 0 qa_ref_CopyLine 1 [] (fun s => T_ref_CopyLine s) default qr_ref_CopyLine 1 [.rows 9, .rows 3]
theorem ok_ref_CopyLine : SpecOk Try.prog 36 (F_ref_CopyLine).spec :=
  specF_ok (Y := Y_ref_CopyLine) (A := A_ref_CopyLine) hY_ref_CopyLine Facts.mix Try.func36 (c := C_ref_CopyLine) (by kernel_rfl) (Lc := 0) trivial qa_ref_CopyLine 1 6 [] (fun s => T_ref_CopyLine s) default qr_ref_CopyLine 1 [.rows 9, .rows 3] [] (by decide) (by kernel_rfl) (by rfl) (by decide) (by decide) (by rfl)
    (by rintro a0; kernel_rfl)

noncomputable def C_ref_SameLine : Code := Try.f39.body.getD .skip
noncomputable def live_ref_SameLine : List (List Nat) := [[2, 3], [2, 3, 26], [4], [2, 3, 29, 30], [2, 3, 29, 30, 31], [2, 3, 5, 29, 30], [2, 3, 29, 30, 43], [4], [2, 3, 29, 30], [4]]
noncomputable def Y_ref_SameLine : EnvT := ⟨Try.prog, lookT [(85, F_ref_SameNumbers)]⟩
theorem hY_ref_SameLine : (Y_ref_SameLine).Ok := lookT_ok ⟨ok_ref_SameNumbers, trivial⟩
noncomputable def T_ref_SameLine_l1 (x0 : Int) (x1 : Int) (x2 : Line) (x3 : Line) : Tr ((Int × Int × Line × Line) ⊕ ((Bool) ⊕ (Line × Line))) :=
  (.ite (decide (x1 < x0))
    (.guard ((0 : Int) ≤ x1 ∧ x1 < ((Sl.len (.strs x2.Said) : Nat) : Int))
    (.guard ((0 : Int) ≤ x1 ∧ x1 < ((Sl.len (.strs x3.Said) : Nat) : Int))
    (.ite (!((x2.Said.getD x1.toNat .empty).toList == (x3.Said.getD x1.toNat .empty).toList))
      (.leaf (.inr (.inl false)))
      (.leaf (.inl (x0, IntKind.i64.wrap (x1 + 1), x2, x3))))))
    (.leaf (.inr (.inr (x2, x3)))))
noncomputable def sh_ref_SameLine_l1 (x0 : Int) (x1 : Int) (x2 : Line) (x3 : Line) : Option ((Bool) ⊕ (Line × Line)) := iter (fun s : Int × Int × Line × Line => (T_ref_SameLine_l1 s.1 s.2.1 s.2.2.1 s.2.2.2).run) (x0, x1, x2, x3)
noncomputable def A_ref_SameLine_l1 : Ann := ⟨[], [], [], live_ref_SameLine, []⟩
noncomputable def q_ref_SameLine_l1 : LQ (Int × Int × Line × Line) := (LQ.skip (LQ.const (.ptr 0 0)) (LQ.skip (LQ.const (.ptr 1 0)) (LQ.seq (Par.q intP) (LQ.seq (Par.q intP) (LQ.seq (LP.q lineL) (LP.q lineL))))))
noncomputable def p_ref_SameLine_l1 : Pat := ⟨[2, 3, 29, 30], []⟩
noncomputable def s_ref_SameLine_l1 : List BS := [.cells 36 4, .cells 36 4]
noncomputable def q_ref_SameLine_l1_e0 : LQ (Bool) := (Par.q boolP)
noncomputable def p_ref_SameLine_l1_e0 : Pat := ⟨[4], []⟩
noncomputable def s_ref_SameLine_l1_e0 : List BS := []
noncomputable def q_ref_SameLine_l1_e1 : LQ (Line × Line) := (LQ.skip (LQ.const (.ptr 0 0)) (LQ.skip (LQ.const (.ptr 1 0)) (LQ.seq (LP.q lineL) (LP.q lineL))))
noncomputable def p_ref_SameLine_l1_e1 : Pat := ⟨[2, 3], []⟩
noncomputable def s_ref_SameLine_l1_e1 : List BS := [.cells 36 4, .cells 36 4]
noncomputable def L_ref_SameLine_l1 : St → Option LR := pieceL q_ref_SameLine_l1 50 0 p_ref_SameLine_l1 s_ref_SameLine_l1 (fun o => LR.two o (fun r => (.ret, stP q_ref_SameLine_l1_e0 50 4 p_ref_SameLine_l1_e0 s_ref_SameLine_l1_e0 r)) (fun r => (.exit 0, stP q_ref_SameLine_l1_e1 50 4 p_ref_SameLine_l1_e1 s_ref_SameLine_l1_e1 r))) (fun a => iter (fun s : Int × Int × Line × Line => (T_ref_SameLine_l1 s.1 s.2.1 s.2.2.1 s.2.2.2).run) a)
noncomputable def E_ref_SameLine_l1 : Exit → Option (End ((Int × Int × Line × Line) ⊕ ((Bool) ⊕ (Line × Line))))
  | .normal => some ⟨_, q_ref_SameLine_l1, p_ref_SameLine_l1, s_ref_SameLine_l1, fun b => .inl b⟩
  | .ret => some ⟨_, q_ref_SameLine_l1_e0, p_ref_SameLine_l1_e0, s_ref_SameLine_l1_e0, fun b => .inr (.inl b)⟩
  | .exit 0 => some ⟨_, q_ref_SameLine_l1_e1, p_ref_SameLine_l1_e1, s_ref_SameLine_l1_e1, fun b => .inr (.inr b)⟩
  | _ => none
noncomputable def O_ref_SameLine_l1 : ((Int × Int × Line × Line) ⊕ ((Bool) ⊕ (Line × Line))) → Exit × St
  | .inl b => (.normal, stP q_ref_SameLine_l1 50 4 p_ref_SameLine_l1 s_ref_SameLine_l1 b)
  | .inr (.inl b) => (.ret, stP q_ref_SameLine_l1_e0 50 4 p_ref_SameLine_l1_e0 s_ref_SameLine_l1_e0 b)
  | .inr (.inr b) => (.exit 0, stP q_ref_SameLine_l1_e1 50 4 p_ref_SameLine_l1_e1 s_ref_SameLine_l1_e1 b)
theorem lok_ref_SameLine_l1 : PieceOk (Y_ref_SameLine).env 0 (sub C_ref_SameLine [0, 1, 0, 1, 1]) L_ref_SameLine_l1 :=
  loop_ok (Y := Y_ref_SameLine) (A := A_ref_SameLine_l1) hY_ref_SameLine Facts.mix (root := C_ref_SameLine) (L := 0) trivial (π := [0, 1, 0, 1, 1]) (c := loopB (sub C_ref_SameLine [0, 1, 0, 1, 1])) (by kernel_rfl) q_ref_SameLine_l1 50 4 p_ref_SameLine_l1 s_ref_SameLine_l1 E_ref_SameLine_l1 (fun s => T_ref_SameLine_l1 s.1 s.2.1 s.2.2.1 s.2.2.2) O_ref_SameLine_l1 (by intro e d h b; unfold E_ref_SameLine_l1 at h; split at h <;> first | (cases h; rfl) | cases h) (fun _ => rfl) (by intro r; cases r <;> exact (fun h => by cases h)) (fun o => LR.two o (fun r => (.ret, stP q_ref_SameLine_l1_e0 50 4 p_ref_SameLine_l1_e0 s_ref_SameLine_l1_e0 r)) (fun r => (.exit 0, stP q_ref_SameLine_l1_e1 50 4 p_ref_SameLine_l1_e1 s_ref_SameLine_l1_e1 r))) (by intro o Q h; exact Or.elim h (fun ⟨v, h1, h2⟩ => ⟨_, h1, h2⟩) (fun ⟨v, h1, h2⟩ => ⟨_, h1, h2⟩))
    (by rintro ⟨x0, x1, x2, x3⟩; kernel_rfl)
noncomputable def A_ref_SameLine : Ann := ⟨[([0, 1, 0, 1, 1], L_ref_SameLine_l1)], [], [], live_ref_SameLine, []⟩
noncomputable def T_ref_SameLine (a0 : Line) (a1 : Line) : Tr (Bool) :=
  (.ite (((((a0.Said.length : Nat) : Int) != ((a1.Said.length : Nat) : Int)) || (a0.Got != a1.Got)) || (!(a0.Closed == a1.Closed)))
    (.leaf false)
    (.two (sh_ref_SameLine_l1 ((a0.Said.length : Nat) : Int) 0 a0 a1) (fun v1 =>
      (.leaf v1)) (fun v2 =>
      (.bind (sh_ref_SameNumbers v2.1.Due v2.2.Due) fun v3 =>
      (.leaf v3)))))
noncomputable def sh_ref_SameLine (a0 : Line) (a1 : Line) : Option (Bool) := (T_ref_SameLine a0 a1).run
noncomputable def qa_ref_SameLine : LQ (Line × Line) := (LQ.seq (Par.q (Par.ofLP lineL)) (Par.q (Par.ofLP lineL)))
noncomputable def qr_ref_SameLine : LQ (Bool) := (Par.q boolP)
noncomputable def F_ref_SameLine : SpecT := specF 0 qa_ref_SameLine 2 [] (fun s => T_ref_SameLine s.1 s.2) default qr_ref_SameLine 1 []
theorem ok_ref_SameLine : SpecOk Try.prog 39 (F_ref_SameLine).spec :=
  specF_ok (Y := Y_ref_SameLine) (A := A_ref_SameLine) hY_ref_SameLine Facts.mix Try.func39 (c := C_ref_SameLine) (by kernel_rfl) (Lc := 0) ⟨lok_ref_SameLine_l1, trivial⟩ qa_ref_SameLine 2 4 [] (fun s => T_ref_SameLine s.1 s.2) default qr_ref_SameLine 1 [] [] (by decide) (by kernel_rfl) (by rfl) (by decide) (by decide) (by rfl)
    (by rintro ⟨a0, a1⟩; kernel_rfl)

noncomputable def C_ref_GoodLine : Code := Try.f41.body.getD .skip
noncomputable def live_ref_GoodLine : List (List Nat) := [[1], [1, 6, 7, 8], [1, 6, 7, 8, 9], [1, 4, 6, 7, 8], [1, 6, 7, 8, 13], [2], [1, 6, 7, 8], [2]]
noncomputable def Y_ref_GoodLine : EnvT := ⟨Try.prog, lookT []⟩
theorem hY_ref_GoodLine : (Y_ref_GoodLine).Ok := lookT_ok trivial
noncomputable def T_ref_GoodLine_l1 (x0 : (List Int)) (x1 : Int) (x2 : Int) (x3 : Line) : Tr (((List Int) × Int × Int × Line) ⊕ ((Bool) ⊕ (Line))) :=
  (.ite (decide (x2 < x1))
    (.guard ((0 : Int) ≤ x2 ∧ x2 < ((Sl.len (.ints x0) : Nat) : Int))
    (.ite (decide ((x0.getD x2.toNat 0) < 0))
      (.leaf (.inr (.inl false)))
      (.leaf (.inl (x0, x1, IntKind.i64.wrap (x2 + 1), x3)))))
    (.leaf (.inr (.inr x3))))
noncomputable def sh_ref_GoodLine_l1 (x0 : (List Int)) (x1 : Int) (x2 : Int) (x3 : Line) : Option ((Bool) ⊕ (Line)) := iter (fun s : (List Int) × Int × Int × Line => (T_ref_GoodLine_l1 s.1 s.2.1 s.2.2.1 s.2.2.2).run) (x0, x1, x2, x3)
noncomputable def A_ref_GoodLine_l1 : Ann := ⟨[], [], [], live_ref_GoodLine, []⟩
noncomputable def q_ref_GoodLine_l1 : LQ ((List Int) × Int × Int × Line) := (LQ.skip (LQ.const (.ptr 0 0)) (LQ.seq (Par.q intsP) (LQ.seq (Par.q intP) (LQ.seq (Par.q intP) (LP.q lineL)))))
noncomputable def p_ref_GoodLine_l1 : Pat := ⟨[1, 6, 7, 8], [.pub 6, .nilsl 6 (.ints [])]⟩
noncomputable def s_ref_GoodLine_l1 : List BS := [.cells 36 4]
noncomputable def q_ref_GoodLine_l1_e0 : LQ (Bool) := (Par.q boolP)
noncomputable def p_ref_GoodLine_l1_e0 : Pat := ⟨[2], []⟩
noncomputable def s_ref_GoodLine_l1_e0 : List BS := []
noncomputable def q_ref_GoodLine_l1_e1 : LQ (Line) := (LQ.skip (LQ.const (.ptr 0 0)) (LP.q lineL))
noncomputable def p_ref_GoodLine_l1_e1 : Pat := ⟨[1], []⟩
noncomputable def s_ref_GoodLine_l1_e1 : List BS := [.cells 36 4]
noncomputable def L_ref_GoodLine_l1 : St → Option LR := pieceL q_ref_GoodLine_l1 41 0 p_ref_GoodLine_l1 s_ref_GoodLine_l1 (fun o => LR.two o (fun r => (.ret, stP q_ref_GoodLine_l1_e0 41 3 p_ref_GoodLine_l1_e0 s_ref_GoodLine_l1_e0 r)) (fun r => (.exit 0, stP q_ref_GoodLine_l1_e1 41 3 p_ref_GoodLine_l1_e1 s_ref_GoodLine_l1_e1 r))) (fun a => iter (fun s : (List Int) × Int × Int × Line => (T_ref_GoodLine_l1 s.1 s.2.1 s.2.2.1 s.2.2.2).run) a)
noncomputable def E_ref_GoodLine_l1 : Exit → Option (End (((List Int) × Int × Int × Line) ⊕ ((Bool) ⊕ (Line))))
  | .normal => some ⟨_, q_ref_GoodLine_l1, p_ref_GoodLine_l1, s_ref_GoodLine_l1, fun b => .inl b⟩
  | .ret => some ⟨_, q_ref_GoodLine_l1_e0, p_ref_GoodLine_l1_e0, s_ref_GoodLine_l1_e0, fun b => .inr (.inl b)⟩
  | .exit 0 => some ⟨_, q_ref_GoodLine_l1_e1, p_ref_GoodLine_l1_e1, s_ref_GoodLine_l1_e1, fun b => .inr (.inr b)⟩
  | _ => none
noncomputable def O_ref_GoodLine_l1 : (((List Int) × Int × Int × Line) ⊕ ((Bool) ⊕ (Line))) → Exit × St
  | .inl b => (.normal, stP q_ref_GoodLine_l1 41 3 p_ref_GoodLine_l1 s_ref_GoodLine_l1 b)
  | .inr (.inl b) => (.ret, stP q_ref_GoodLine_l1_e0 41 3 p_ref_GoodLine_l1_e0 s_ref_GoodLine_l1_e0 b)
  | .inr (.inr b) => (.exit 0, stP q_ref_GoodLine_l1_e1 41 3 p_ref_GoodLine_l1_e1 s_ref_GoodLine_l1_e1 b)
theorem lok_ref_GoodLine_l1 : PieceOk (Y_ref_GoodLine).env 0 (sub C_ref_GoodLine [0, 1, 0, 1]) L_ref_GoodLine_l1 :=
  loop_ok (Y := Y_ref_GoodLine) (A := A_ref_GoodLine_l1) hY_ref_GoodLine Facts.mix (root := C_ref_GoodLine) (L := 0) trivial (π := [0, 1, 0, 1]) (c := loopB (sub C_ref_GoodLine [0, 1, 0, 1])) (by kernel_rfl) q_ref_GoodLine_l1 41 3 p_ref_GoodLine_l1 s_ref_GoodLine_l1 E_ref_GoodLine_l1 (fun s => T_ref_GoodLine_l1 s.1 s.2.1 s.2.2.1 s.2.2.2) O_ref_GoodLine_l1 (by intro e d h b; unfold E_ref_GoodLine_l1 at h; split at h <;> first | (cases h; rfl) | cases h) (fun _ => rfl) (by intro r; cases r <;> exact (fun h => by cases h)) (fun o => LR.two o (fun r => (.ret, stP q_ref_GoodLine_l1_e0 41 3 p_ref_GoodLine_l1_e0 s_ref_GoodLine_l1_e0 r)) (fun r => (.exit 0, stP q_ref_GoodLine_l1_e1 41 3 p_ref_GoodLine_l1_e1 s_ref_GoodLine_l1_e1 r))) (by intro o Q h; exact Or.elim h (fun ⟨v, h1, h2⟩ => ⟨_, h1, h2⟩) (fun ⟨v, h1, h2⟩ => ⟨_, h1, h2⟩))
    (by rintro ⟨x0, x1, x2, x3⟩; kernel_rfl)
noncomputable def A_ref_GoodLine : Ann := ⟨[([0, 1, 0, 1], L_ref_GoodLine_l1)], [], [], live_ref_GoodLine, []⟩
noncomputable def T_ref_GoodLine (a0 : Line) : Tr (Bool) :=
  (.two (sh_ref_GoodLine_l1 a0.Due ((a0.Due.length : Nat) : Int) 0 a0) (fun v1 =>
    (.leaf v1)) (fun v2 =>
    (.leaf ((((((v2.Said.length : Nat) : Int) == ((v2.Due.length : Nat) : Int)) && (decide (((v2.Said.length : Nat) : Int) ≤ 400))) && (decide (v2.Got ≥ 0))) && (decide (v2.Got ≤ ((v2.Said.length : Nat) : Int)))))))
noncomputable def sh_ref_GoodLine (a0 : Line) : Option (Bool) := (T_ref_GoodLine a0).run
noncomputable def qa_ref_GoodLine : LQ (Line) := (Par.q (Par.ofLP lineL))
noncomputable def qr_ref_GoodLine : LQ (Bool) := (Par.q boolP)
noncomputable def F_ref_GoodLine : SpecT := specF 0 qa_ref_GoodLine 1 [] (fun s => T_ref_GoodLine s) default qr_ref_GoodLine 1 []
theorem ok_ref_GoodLine : SpecOk Try.prog 41 (F_ref_GoodLine).spec :=
  specF_ok (Y := Y_ref_GoodLine) (A := A_ref_GoodLine) hY_ref_GoodLine Facts.mix Try.func41 (c := C_ref_GoodLine) (by kernel_rfl) (Lc := 0) ⟨lok_ref_GoodLine_l1, trivial⟩ qa_ref_GoodLine 1 3 [] (fun s => T_ref_GoodLine s) default qr_ref_GoodLine 1 [] [] (by decide) (by kernel_rfl) (by rfl) (by decide) (by decide) (by rfl)
    (by rintro a0; kernel_rfl)

noncomputable def C_ref_Say : Code := Try.f38.body.getD .skip
noncomputable def live_ref_Say : List (List Nat) := [[1, 2, 3, 6], [1, 2, 3, 6, 15], [6, 7], [1, 2, 3, 6, 18], [6, 7], [1, 2, 3, 6, 23], [6, 7], [1, 2, 6, 8], [6, 8], [6, 7]]
noncomputable def Y_ref_Say : EnvT := ⟨Try.prog, lookT [(41, F_ref_GoodLine), (36, F_ref_CopyLine)]⟩
theorem hY_ref_Say : (Y_ref_Say).Ok := lookT_ok ⟨ok_ref_GoodLine, ok_ref_CopyLine, trivial⟩
noncomputable def A_ref_Say : Ann := ⟨[], [], [], live_ref_Say, []⟩
noncomputable def T_ref_Say (a0 : Line) (a1 : ByteArray) (a2 : Int) : Tr (Line × Int) :=
  (.bind (sh_ref_GoodLine a0) fun v1 =>
  (.ite ((!v1) || (decide (a2 < 0)))
    (.leaf (a0, 2))
    (.ite (a0.Closed)
      (.leaf (a0, 11))
      (.ite (((a0.Said.length : Nat) : Int) == 400)
        (.leaf (a0, 6))
        (.bind (sh_ref_CopyLine a0) fun v2 =>
        (.guard ((Sl.len (.strs v2.Said) + Sl.len (.strs [a1])) * 16 ≤ 140737488355328)
        (.guard ((Sl.len (.ints v2.Due) + Sl.len (.ints [a2])) * 8 ≤ 140737488355328)
        (.leaf ({ (v2 : Line) with Said := v2.Said ++ [a1], Due := v2.Due ++ [a2] }, 0)))))))))
noncomputable def sh_ref_Say (a0 : Line) (a1 : ByteArray) (a2 : Int) : Option (Line × Int) := (T_ref_Say a0 a1 a2).run
noncomputable def qa_ref_Say : LQ (Line × ByteArray × Int) := (LQ.seq (Par.q (Par.ofLP lineL)) (LQ.seq (Par.q strP) (Par.q intP)))
noncomputable def qr_ref_Say : LQ (Line × Int) := (LQ.seq (Par.q (Par.ofLP lineL)) (Par.q intP))
noncomputable def F_ref_Say : SpecT := specF 0 qa_ref_Say 3 [] (fun s => T_ref_Say s.1 s.2.1 s.2.2) default qr_ref_Say 2 []
theorem ok_ref_Say : SpecOk Try.prog 38 (F_ref_Say).spec :=
  specF_ok (Y := Y_ref_Say) (A := A_ref_Say) hY_ref_Say Facts.mix Try.func38 (c := C_ref_Say) (by kernel_rfl) (Lc := 0) trivial qa_ref_Say 3 11 [] (fun s => T_ref_Say s.1 s.2.1 s.2.2) default qr_ref_Say 2 [] [.pubB 6] (by decide) (by kernel_rfl) (by rfl) (by decide) (by decide) (by rfl)
    (by rintro ⟨a0, a1, a2⟩; kernel_rfl)

noncomputable def C_ref_Deliver : Code := Try.f56.body.getD .skip
noncomputable def live_ref_Deliver : List (List Nat) := [[1, 2, 3, 4, 5, 10], [1, 2, 3, 4, 5, 10, 15], [10, 11], [1, 2, 3, 4, 5, 10, 18], [10, 11], [1, 2, 3, 4, 5, 10, 28], [10, 11], [4, 5, 10, 49], [10, 11], [5, 10, 58], [10, 11], [10, 12], [10, 12], [10, 11]]
noncomputable def Y_ref_Deliver : EnvT := ⟨Try.prog, lookT [(41, F_ref_GoodLine), (36, F_ref_CopyLine)]⟩
theorem hY_ref_Deliver : (Y_ref_Deliver).Ok := lookT_ok ⟨ok_ref_GoodLine, ok_ref_CopyLine, trivial⟩
noncomputable def A_ref_Deliver : Ann := ⟨[], [], [], live_ref_Deliver, []⟩
noncomputable def T_ref_Deliver (a0 : Line) (a1 : Int) (a2 : ByteArray) (a3 : Int) (a4 : Int) : Tr (Line × Int) :=
  (.bind (sh_ref_GoodLine a0) fun v1 =>
  (.ite (!v1)
    (.leaf (a0, 2))
    (.ite (a0.Closed)
      (.leaf (a0, 11))
      (.ite ((decide (a1 < 1)) || ((IntKind.i64.wrap (a1 - 1)) != a0.Got))
        (.leaf (a0, 10))
        (.guard ((((decide (a3 < a1)) || (decide (((a0.Said.length : Nat) : Int) < a1))) = false → ((0 : Int) ≤ a0.Got ∧ a0.Got < ((Sl.len (.strs a0.Said) : Nat) : Int)) ∧ True))
        (.ite (((decide (a3 < a1)) || (decide (((a0.Said.length : Nat) : Int) < a1))) || (!(a2.toList == (a0.Said.getD a0.Got.toNat .empty).toList)))
          (.leaf (a0, 9))
          (.guard ((0 : Int) ≤ a0.Got ∧ a0.Got < ((Sl.len (.ints a0.Due) : Nat) : Int))
          (.ite (decide ((a0.Due.getD a0.Got.toNat 0) ≤ a4))
            (.leaf (a0, 12))
            (.bind (sh_ref_CopyLine a0) fun v2 =>
            (.leaf ({ (v2 : Line) with Got := IntKind.i64.wrap (v2.Got + 1) }, 0)))))))))))
noncomputable def sh_ref_Deliver (a0 : Line) (a1 : Int) (a2 : ByteArray) (a3 : Int) (a4 : Int) : Option (Line × Int) := (T_ref_Deliver a0 a1 a2 a3 a4).run
noncomputable def qa_ref_Deliver : LQ (Line × Int × ByteArray × Int × Int) := (LQ.seq (Par.q (Par.ofLP lineL)) (LQ.seq (Par.q intP) (LQ.seq (Par.q strP) (LQ.seq (Par.q intP) (Par.q intP)))))
noncomputable def qr_ref_Deliver : LQ (Line × Int) := (LQ.seq (Par.q (Par.ofLP lineL)) (Par.q intP))
noncomputable def F_ref_Deliver : SpecT := specF 0 qa_ref_Deliver 5 [] (fun s => T_ref_Deliver s.1 s.2.1 s.2.2.1 s.2.2.2.1 s.2.2.2.2) default qr_ref_Deliver 2 []
theorem ok_ref_Deliver : SpecOk Try.prog 56 (F_ref_Deliver).spec :=
  specF_ok (Y := Y_ref_Deliver) (A := A_ref_Deliver) hY_ref_Deliver Facts.mix Try.func56 (c := C_ref_Deliver) (by kernel_rfl) (Lc := 0) trivial qa_ref_Deliver 5 7 [] (fun s => T_ref_Deliver s.1 s.2.1 s.2.2.1 s.2.2.2.1 s.2.2.2.2) default qr_ref_Deliver 2 [] [.pubB 10] (by decide) (by kernel_rfl) (by rfl) (by decide) (by decide) (by rfl)
    (by rintro ⟨a0, a1, a2, a3, a4⟩; kernel_rfl)

noncomputable def C_ref_Expire : Code := Try.f58.body.getD .skip
noncomputable def live_ref_Expire : List (List Nat) := [[1, 2, 3, 4, 8], [1, 2, 3, 4, 8, 13], [8, 9], [1, 2, 3, 4, 8, 16], [8, 9], [1, 2, 3, 4, 8, 26], [8, 9], [1, 2, 4, 8, 30], [8, 9], [4, 8, 39], [8, 9], [8, 10], [8, 10], [8, 9]]
noncomputable def Y_ref_Expire : EnvT := ⟨Try.prog, lookT [(41, F_ref_GoodLine), (36, F_ref_CopyLine)]⟩
theorem hY_ref_Expire : (Y_ref_Expire).Ok := lookT_ok ⟨ok_ref_GoodLine, ok_ref_CopyLine, trivial⟩
noncomputable def A_ref_Expire : Ann := ⟨[], [], [], live_ref_Expire, []⟩
noncomputable def T_ref_Expire (a0 : Line) (a1 : Int) (a2 : Int) (a3 : Int) : Tr (Line × Int) :=
  (.bind (sh_ref_GoodLine a0) fun v1 =>
  (.ite (!v1)
    (.leaf (a0, 2))
    (.ite (a0.Closed)
      (.leaf (a0, 11))
      (.ite ((decide (a1 < 1)) || (decide (((a0.Said.length : Nat) : Int) < a1)))
        (.leaf (a0, 4))
        (.ite (decide (a3 ≥ a1))
          (.leaf (a0, 5))
          (.guard ((0 : Int) ≤ (IntKind.i64.wrap (a1 - 1)) ∧ (IntKind.i64.wrap (a1 - 1)) < ((Sl.len (.ints a0.Due) : Nat) : Int))
          (.ite (decide ((a0.Due.getD ((IntKind.i64.wrap (a1 - 1)).toNat) 0) > a2))
            (.leaf (a0, 13))
            (.bind (sh_ref_CopyLine a0) fun v2 =>
            (.leaf ({ (v2 : Line) with Closed := true }, 0))))))))))
noncomputable def sh_ref_Expire (a0 : Line) (a1 : Int) (a2 : Int) (a3 : Int) : Option (Line × Int) := (T_ref_Expire a0 a1 a2 a3).run
noncomputable def qa_ref_Expire : LQ (Line × Int × Int × Int) := (LQ.seq (Par.q (Par.ofLP lineL)) (LQ.seq (Par.q intP) (LQ.seq (Par.q intP) (Par.q intP))))
noncomputable def qr_ref_Expire : LQ (Line × Int) := (LQ.seq (Par.q (Par.ofLP lineL)) (Par.q intP))
noncomputable def F_ref_Expire : SpecT := specF 0 qa_ref_Expire 4 [] (fun s => T_ref_Expire s.1 s.2.1 s.2.2.1 s.2.2.2) default qr_ref_Expire 2 []
theorem ok_ref_Expire : SpecOk Try.prog 58 (F_ref_Expire).spec :=
  specF_ok (Y := Y_ref_Expire) (A := A_ref_Expire) hY_ref_Expire Facts.mix Try.func58 (c := C_ref_Expire) (by kernel_rfl) (Lc := 0) trivial qa_ref_Expire 4 7 [] (fun s => T_ref_Expire s.1 s.2.1 s.2.2.1 s.2.2.2) default qr_ref_Expire 2 [] [.pubB 8] (by decide) (by kernel_rfl) (by rfl) (by decide) (by decide) (by rfl)
    (by rintro ⟨a0, a1, a2, a3⟩; kernel_rfl)

noncomputable def C_law_lines : Code := Try.f42.body.getD .skip
noncomputable def live_law_lines : List (List Nat) := [[], [1, 2], [0]]
noncomputable def Y_law_lines : EnvT := ⟨Try.prog, lookT [(37, F_line_Say), (40, F_line_Good)]⟩
theorem hY_law_lines : (Y_law_lines).Ok := lookT_ok ⟨ok_line_Say, ok_line_Good, trivial⟩
noncomputable def A_law_lines : Ann := ⟨[], [], [], live_law_lines, []⟩
noncomputable def T_law_lines  : Tr (Bool) :=
  (.bind (sh_line_Say (⟨[], [], 0, false⟩ : Line) (⟨#[97]⟩ : ByteArray) 5) fun v1 =>
  (.guard ((((v1.2 == 0) && (((v1.1.Said.length : Nat) : Int) == 1)) = true → ((sh_line_Good v1.1).isSome = true) ∧ True))
  (.leaf (((v1.2 == 0) && (((v1.1.Said.length : Nat) : Int) == 1)) && ((sh_line_Good v1.1).getD default)))))
noncomputable def sh_law_lines  : Option (Bool) := (T_law_lines ).run
noncomputable def qa_law_lines : LQ (Unit) := LQ.nil
noncomputable def qr_law_lines : LQ (Bool) := (Par.q boolP)
noncomputable def F_law_lines : SpecT := specF 0 qa_law_lines 0 [] (fun s => T_law_lines ) default qr_law_lines 1 []
theorem ok_law_lines : SpecOk Try.prog 42 (F_law_lines).spec :=
  specF_ok (Y := Y_law_lines) (A := A_law_lines) hY_law_lines Facts.mix Try.func42 (c := C_law_lines) (by kernel_rfl) (Lc := 0) trivial qa_law_lines 0 3 [] (fun s => T_law_lines ) default qr_law_lines 1 [] [] (by decide) (by kernel_rfl) (by rfl) (by decide) (by decide) (by rfl)
    (by rintro _; kernel_rfl)

noncomputable def C_keep_lines : Code := Try.f71.body.getD .skip
noncomputable def live_keep_lines : List (List Nat) := [[], [1, 2], [0]]
noncomputable def Y_keep_lines : EnvT := ⟨Try.prog, lookT [(37, F_line_Say), (40, F_line_Good)]⟩
theorem hY_keep_lines : (Y_keep_lines).Ok := lookT_ok ⟨ok_line_Say, ok_line_Good, trivial⟩
noncomputable def A_keep_lines : Ann := ⟨[], [], [], live_keep_lines, []⟩
noncomputable def T_keep_lines  : Tr (Bool) :=
  (.bind (sh_line_Say (⟨[], [], 0, false⟩ : Line) (⟨#[97]⟩ : ByteArray) 5) fun v1 =>
  (.guard ((((v1.2 == 0) && (((v1.1.Said.length : Nat) : Int) == 1)) = true → ((sh_line_Good v1.1).isSome = true) ∧ True))
  (.leaf (((v1.2 == 0) && (((v1.1.Said.length : Nat) : Int) == 1)) && ((sh_line_Good v1.1).getD default)))))
noncomputable def sh_keep_lines  : Option (Bool) := (T_keep_lines ).run
noncomputable def qa_keep_lines : LQ (Unit) := LQ.nil
noncomputable def qr_keep_lines : LQ (Bool) := (Par.q boolP)
noncomputable def F_keep_lines : SpecT := specF 0 qa_keep_lines 0 [] (fun s => T_keep_lines ) default qr_keep_lines 1 []
theorem ok_keep_lines : SpecOk Try.prog 71 (F_keep_lines).spec :=
  specF_ok (Y := Y_keep_lines) (A := A_keep_lines) hY_keep_lines Facts.mix Try.func71 (c := C_keep_lines) (by kernel_rfl) (Lc := 0) trivial qa_keep_lines 0 3 [] (fun s => T_keep_lines ) default qr_keep_lines 1 [] [] (by decide) (by kernel_rfl) (by rfl) (by decide) (by decide) (by rfl)
    (by rintro _; kernel_rfl)

noncomputable def C_law_LineSays : Code := Try.f6.body.getD .skip
noncomputable def live_law_LineSays : List (List Nat) := [[1, 2, 3], [1, 2, 3, 7], [1, 2, 3, 7, 8, 9], [3, 7, 8, 9, 10, 11], [6]]
noncomputable def Y_law_LineSays : EnvT := ⟨Try.prog, lookT [(36, F_ref_CopyLine), (37, F_line_Say), (38, F_ref_Say), (39, F_ref_SameLine), (40, F_line_Good), (41, F_ref_GoodLine), (42, F_law_lines)]⟩
theorem hY_law_LineSays : (Y_law_LineSays).Ok := lookT_ok ⟨ok_ref_CopyLine, ok_line_Say, ok_ref_Say, ok_ref_SameLine, ok_line_Good, ok_ref_GoodLine, ok_law_lines, trivial⟩
noncomputable def A_law_LineSays : Ann := ⟨[], [], [], live_law_LineSays, []⟩
noncomputable def T_law_LineSays (a0 : Line) (a1 : ByteArray) (a2 : Int) : Tr (Bool) :=
  (.bind (sh_ref_CopyLine a0) fun v1 =>
  (.bind (sh_line_Say v1 a1 a2) fun v3 =>
  (.bind (sh_ref_Say a0 a1 a2) fun v4 =>
  (.guard (((v3.2 == v4.2) = true → ((sh_ref_SameLine v3.1 v4.1).isSome = true) ∧ True))
  (.guard ((((v3.2 == v4.2) && ((sh_ref_SameLine v3.1 v4.1).getD default)) = true → ((sh_ref_SameLine v1 a0).isSome = true) ∧ True))
  (.guard (((((v3.2 == v4.2) && ((sh_ref_SameLine v3.1 v4.1).getD default)) && ((sh_ref_SameLine v1 a0).getD default)) = true → ((sh_line_Good v1).isSome = true) ∧ True))
  (.guard (((((v3.2 == v4.2) && ((sh_ref_SameLine v3.1 v4.1).getD default)) && ((sh_ref_SameLine v1 a0).getD default)) = true → ((sh_ref_GoodLine a0).isSome = true) ∧ True))
  (.guard ((((((v3.2 == v4.2) && ((sh_ref_SameLine v3.1 v4.1).getD default)) && ((sh_ref_SameLine v1 a0).getD default)) && (((sh_line_Good v1).getD default) == ((sh_ref_GoodLine a0).getD default))) = true → ((sh_law_lines).isSome = true) ∧ True))
  (.leaf (((((v3.2 == v4.2) && ((sh_ref_SameLine v3.1 v4.1).getD default)) && ((sh_ref_SameLine v1 a0).getD default)) && (((sh_line_Good v1).getD default) == ((sh_ref_GoodLine a0).getD default))) && ((sh_law_lines).getD default)))))))))))
noncomputable def sh_law_LineSays (a0 : Line) (a1 : ByteArray) (a2 : Int) : Option (Bool) := (T_law_LineSays a0 a1 a2).run
noncomputable def qa_law_LineSays : LQ (Line × ByteArray × Int) := (LQ.seq (Par.q (Par.ofLP lineL)) (LQ.seq (Par.q strP) (Par.q intP)))
noncomputable def qr_law_LineSays : LQ (Bool) := (Par.q boolP)
noncomputable def F_law_LineSays : SpecT := specF 0 qa_law_LineSays 3 [] (fun s => T_law_LineSays s.1 s.2.1 s.2.2) default qr_law_LineSays 1 []
theorem ok_law_LineSays : SpecOk Try.prog 6 (F_law_LineSays).spec :=
  specF_ok (Y := Y_law_LineSays) (A := A_law_LineSays) hY_law_LineSays Facts.mix Try.func6 (c := C_law_LineSays) (by kernel_rfl) (Lc := 0) trivial qa_law_LineSays 3 8 [] (fun s => T_law_LineSays s.1 s.2.1 s.2.2) default qr_law_LineSays 1 [] [] (by decide) (by kernel_rfl) (by rfl) (by decide) (by decide) (by rfl)
    (by rintro ⟨a0, a1, a2⟩; kernel_rfl)

noncomputable def C_law_LineDelivers : Code := Try.f10.body.getD .skip
noncomputable def live_law_LineDelivers : List (List Nat) := [[1, 2, 3, 4, 5], [1, 2, 3, 4, 5, 11, 12], [11, 12, 13, 14], [10]]
noncomputable def Y_law_LineDelivers : EnvT := ⟨Try.prog, lookT [(36, F_ref_CopyLine), (55, F_line_Deliver), (56, F_ref_Deliver), (39, F_ref_SameLine), (42, F_law_lines)]⟩
theorem hY_law_LineDelivers : (Y_law_LineDelivers).Ok := lookT_ok ⟨ok_ref_CopyLine, ok_line_Deliver, ok_ref_Deliver, ok_ref_SameLine, ok_law_lines, trivial⟩
noncomputable def A_law_LineDelivers : Ann := ⟨[], [], [], live_law_LineDelivers, []⟩
noncomputable def T_law_LineDelivers (a0 : Line) (a1 : Int) (a2 : ByteArray) (a3 : Int) (a4 : Int) : Tr (Bool) :=
  (.bind (sh_ref_CopyLine a0) fun v1 =>
  (.bind (sh_line_Deliver v1 a1 a2 a3 a4) fun v3 =>
  (.bind (sh_ref_Deliver a0 a1 a2 a3 a4) fun v4 =>
  (.guard (((v3.2 == v4.2) = true → ((sh_ref_SameLine v3.1 v4.1).isSome = true) ∧ True))
  (.guard ((((v3.2 == v4.2) && ((sh_ref_SameLine v3.1 v4.1).getD default)) = true → ((sh_law_lines).isSome = true) ∧ True))
  (.leaf (((v3.2 == v4.2) && ((sh_ref_SameLine v3.1 v4.1).getD default)) && ((sh_law_lines).getD default))))))))
noncomputable def sh_law_LineDelivers (a0 : Line) (a1 : Int) (a2 : ByteArray) (a3 : Int) (a4 : Int) : Option (Bool) := (T_law_LineDelivers a0 a1 a2 a3 a4).run
noncomputable def qa_law_LineDelivers : LQ (Line × Int × ByteArray × Int × Int) := (LQ.seq (Par.q (Par.ofLP lineL)) (LQ.seq (Par.q intP) (LQ.seq (Par.q strP) (LQ.seq (Par.q intP) (Par.q intP)))))
noncomputable def qr_law_LineDelivers : LQ (Bool) := (Par.q boolP)
noncomputable def F_law_LineDelivers : SpecT := specF 0 qa_law_LineDelivers 5 [] (fun s => T_law_LineDelivers s.1 s.2.1 s.2.2.1 s.2.2.2.1 s.2.2.2.2) default qr_law_LineDelivers 1 []
theorem ok_law_LineDelivers : SpecOk Try.prog 10 (F_law_LineDelivers).spec :=
  specF_ok (Y := Y_law_LineDelivers) (A := A_law_LineDelivers) hY_law_LineDelivers Facts.mix Try.func10 (c := C_law_LineDelivers) (by kernel_rfl) (Lc := 0) trivial qa_law_LineDelivers 5 7 [] (fun s => T_law_LineDelivers s.1 s.2.1 s.2.2.1 s.2.2.2.1 s.2.2.2.2) default qr_law_LineDelivers 1 [] [] (by decide) (by kernel_rfl) (by rfl) (by decide) (by decide) (by rfl)
    (by rintro ⟨a0, a1, a2, a3, a4⟩; kernel_rfl)

noncomputable def C_law_LineExpires : Code := Try.f11.body.getD .skip
noncomputable def live_law_LineExpires : List (List Nat) := [[1, 2, 3, 4], [1, 2, 3, 4, 9, 10], [9, 10, 11, 12], [8]]
noncomputable def Y_law_LineExpires : EnvT := ⟨Try.prog, lookT [(36, F_ref_CopyLine), (57, F_line_Expire), (58, F_ref_Expire), (39, F_ref_SameLine), (42, F_law_lines)]⟩
theorem hY_law_LineExpires : (Y_law_LineExpires).Ok := lookT_ok ⟨ok_ref_CopyLine, ok_line_Expire, ok_ref_Expire, ok_ref_SameLine, ok_law_lines, trivial⟩
noncomputable def A_law_LineExpires : Ann := ⟨[], [], [], live_law_LineExpires, []⟩
noncomputable def T_law_LineExpires (a0 : Line) (a1 : Int) (a2 : Int) (a3 : Int) : Tr (Bool) :=
  (.bind (sh_ref_CopyLine a0) fun v1 =>
  (.bind (sh_line_Expire v1 a1 a2 a3) fun v3 =>
  (.bind (sh_ref_Expire a0 a1 a2 a3) fun v4 =>
  (.guard (((v3.2 == v4.2) = true → ((sh_ref_SameLine v3.1 v4.1).isSome = true) ∧ True))
  (.guard ((((v3.2 == v4.2) && ((sh_ref_SameLine v3.1 v4.1).getD default)) = true → ((sh_law_lines).isSome = true) ∧ True))
  (.leaf (((v3.2 == v4.2) && ((sh_ref_SameLine v3.1 v4.1).getD default)) && ((sh_law_lines).getD default))))))))
noncomputable def sh_law_LineExpires (a0 : Line) (a1 : Int) (a2 : Int) (a3 : Int) : Option (Bool) := (T_law_LineExpires a0 a1 a2 a3).run
noncomputable def qa_law_LineExpires : LQ (Line × Int × Int × Int) := (LQ.seq (Par.q (Par.ofLP lineL)) (LQ.seq (Par.q intP) (LQ.seq (Par.q intP) (Par.q intP))))
noncomputable def qr_law_LineExpires : LQ (Bool) := (Par.q boolP)
noncomputable def F_law_LineExpires : SpecT := specF 0 qa_law_LineExpires 4 [] (fun s => T_law_LineExpires s.1 s.2.1 s.2.2.1 s.2.2.2) default qr_law_LineExpires 1 []
theorem ok_law_LineExpires : SpecOk Try.prog 11 (F_law_LineExpires).spec :=
  specF_ok (Y := Y_law_LineExpires) (A := A_law_LineExpires) hY_law_LineExpires Facts.mix Try.func11 (c := C_law_LineExpires) (by kernel_rfl) (Lc := 0) trivial qa_law_LineExpires 4 7 [] (fun s => T_law_LineExpires s.1 s.2.1 s.2.2.1 s.2.2.2) default qr_law_LineExpires 1 [] [] (by decide) (by kernel_rfl) (by rfl) (by decide) (by decide) (by rfl)
    (by rintro ⟨a0, a1, a2, a3⟩; kernel_rfl)

noncomputable def C_keep_LineEither : Code := Try.f14.body.getD .skip
noncomputable def live_keep_LineEither : List (List Nat) := [[1, 2, 3, 4, 5, 6], [1, 2, 3, 4, 5, 6, 13, 14], [1, 2, 3, 4, 5, 13, 14, 15, 16], [1, 2, 3, 4, 13, 14, 15, 16, 53], [12], [1, 2, 3, 4, 13, 15, 16, 55], [1, 2, 3, 4, 15, 16, 18], [1, 2, 3, 4, 15, 16, 66], [12], [1, 2, 3, 4, 15, 68], [20], [79], [12], [12]]
noncomputable def Y_keep_LineEither : EnvT := ⟨Try.prog, lookT [(55, F_line_Deliver), (57, F_line_Expire), (71, F_keep_lines)]⟩
theorem hY_keep_LineEither : (Y_keep_LineEither).Ok := lookT_ok ⟨ok_line_Deliver, ok_line_Expire, ok_keep_lines, trivial⟩
noncomputable def A_keep_LineEither : Ann := ⟨[], [], [], live_keep_LineEither, []⟩
noncomputable def T_keep_LineEither (a0 : Line) (a1 : Int) (a2 : ByteArray) (a3 : Int) (a4 : Int) (a5 : Int) : Tr (Bool) :=
  (.bind (sh_line_Deliver a0 a1 a2 a3 a4) fun v1 =>
  (.bind (sh_line_Expire a0 a1 a5 a0.Got) fun v2 =>
  (.guard (((((v1.2 == 0) && (v2.2 == 0)) && (decide (a5 ≤ a4))) = false → ((sh_keep_lines).isSome = true) ∧ True))
  (.ite ((((v1.2 == 0) && (v2.2 == 0)) && (decide (a5 ≤ a4))) || (!((sh_keep_lines).getD default)))
    (.leaf false)
    (.ite (v1.2 == 0)
      (.bind (sh_line_Deliver v1.1 a1 a2 a3 a4) fun v3 =>
      (.ite (v3.2 != 10)
        (.leaf false)
        (.ite (v2.2 == 0)
          (.bind (sh_line_Deliver v2.1 a1 a2 a3 a4) fun v4 =>
          (.ite (v4.2 != 11)
            (.leaf false)
            (.leaf true)))
          (.leaf true))))
      (.ite (v2.2 == 0)
        (.bind (sh_line_Deliver v2.1 a1 a2 a3 a4) fun v5 =>
        (.ite (v5.2 != 11)
          (.leaf false)
          (.leaf true)))
        (.leaf true)))))))
noncomputable def sh_keep_LineEither (a0 : Line) (a1 : Int) (a2 : ByteArray) (a3 : Int) (a4 : Int) (a5 : Int) : Option (Bool) := (T_keep_LineEither a0 a1 a2 a3 a4 a5).run
noncomputable def qa_keep_LineEither : LQ (Line × Int × ByteArray × Int × Int × Int) := (LQ.seq (Par.q (Par.ofLP lineL)) (LQ.seq (Par.q intP) (LQ.seq (Par.q strP) (LQ.seq (Par.q intP) (LQ.seq (Par.q intP) (Par.q intP))))))
noncomputable def qr_keep_LineEither : LQ (Bool) := (Par.q boolP)
noncomputable def F_keep_LineEither : SpecT := specF 0 qa_keep_LineEither 6 [] (fun s => T_keep_LineEither s.1 s.2.1 s.2.2.1 s.2.2.2.1 s.2.2.2.2.1 s.2.2.2.2.2) default qr_keep_LineEither 1 []
theorem ok_keep_LineEither : SpecOk Try.prog 14 (F_keep_LineEither).spec :=
  specF_ok (Y := Y_keep_LineEither) (A := A_keep_LineEither) hY_keep_LineEither Facts.mix Try.func14 (c := C_keep_LineEither) (by kernel_rfl) (Lc := 0) trivial qa_keep_LineEither 6 7 [] (fun s => T_keep_LineEither s.1 s.2.1 s.2.2.1 s.2.2.2.1 s.2.2.2.2.1 s.2.2.2.2.2) default qr_keep_LineEither 1 [] [] (by decide) (by kernel_rfl) (by rfl) (by decide) (by decide) (by rfl)
    (by rintro ⟨a0, a1, a2, a3, a4, a5⟩; kernel_rfl)

noncomputable def C_keep_LinePlays : Code := Try.f15.body.getD .skip
noncomputable def live_keep_LinePlays : List (List Nat) := [[0], [0, 11], [2], [0, 3], [0, 3, 4], [0, 3, 4, 5], [0, 3, 4, 5, 19], [0, 3, 4, 5], [0, 3, 4, 5, 6], [0, 3, 4, 5, 6, 7], [0, 3, 4, 5, 6, 7], [0, 3, 4, 5, 6, 7, 29], [0, 3, 4, 5, 6, 7, 8], [0, 3, 4, 5, 7, 8, 61], [2], [0, 3, 4, 5, 6, 7, 29, 62], [0, 3, 4, 5, 7, 8], [0, 3, 4, 5, 6, 7, 74], [0, 3, 4, 5, 6, 7, 8], [0, 3, 4, 5, 6, 7, 8, 90], [0, 3, 4, 5, 7, 8], [0, 3, 4, 5, 125], [2], [0, 3, 4, 5, 127, 128], [0, 3, 4, 5, 127, 128, 129], [0, 3, 4, 5, 9, 127, 128], [0, 3, 4, 5, 127, 128, 140], [2], [0, 3, 4, 5, 127, 128], [2]]
noncomputable def Y_keep_LinePlays : EnvT := ⟨Try.prog, lookT [(71, F_keep_lines), (34, F_keep_pick), (37, F_line_Say), (40, F_line_Good), (55, F_line_Deliver), (57, F_line_Expire)]⟩
theorem hY_keep_LinePlays : (Y_keep_LinePlays).Ok := lookT_ok ⟨ok_keep_lines, ok_keep_pick, ok_line_Say, ok_line_Good, ok_line_Deliver, ok_line_Expire, trivial⟩
noncomputable def T_keep_LinePlays_l1 (x0 : (List Carry)) (x1 : Int) (x2 : Int) (x3 : Int) (x4 : Line) (x5 : (List ByteArray)) : Tr (((List Carry) × Int × Int × Int × Line × (List ByteArray)) ⊕ ((Bool) ⊕ ((List Carry) × Int × Line × (List ByteArray)))) :=
  (.ite (decide (x3 < x2))
    (.guard ((0 : Int) ≤ x3 ∧ x3 < ((Sl.len (.strs x5) : Nat) : Int))
    (.guard ((0 : Int) ≤ x3 ∧ x3 < ((Sl.len (.strs x4.Said) : Nat) : Int))
    (.ite (!((x5.getD x3.toNat .empty).toList == (x4.Said.getD x3.toNat .empty).toList))
      (.leaf (.inr (.inl false)))
      (.leaf (.inl (x0, x1, x2, IntKind.i64.wrap (x3 + 1), x4, x5))))))
    (.leaf (.inr (.inr (x0, x1, x4, x5)))))
noncomputable def sh_keep_LinePlays_l1 (x0 : (List Carry)) (x1 : Int) (x2 : Int) (x3 : Int) (x4 : Line) (x5 : (List ByteArray)) : Option ((Bool) ⊕ ((List Carry) × Int × Line × (List ByteArray))) := iter (fun s : (List Carry) × Int × Int × Int × Line × (List ByteArray) => (T_keep_LinePlays_l1 s.1 s.2.1 s.2.2.1 s.2.2.2.1 s.2.2.2.2.1 s.2.2.2.2.2).run) (x0, x1, x2, x3, x4, x5)
noncomputable def A_keep_LinePlays_l1 : Ann := ⟨[], [], [], live_keep_LinePlays, [(16, [3])]⟩
noncomputable def q_keep_LinePlays_l1 : LQ ((List Carry) × Int × Int × Int × Line × (List ByteArray)) := (LQ.seq (Par.q carriesP) (LQ.skip (LQ.const (.ptr 0 0)) (LQ.skip (LQ.const (.own 1)) (LQ.seq (Par.q intP) (LQ.seq (Par.q intP) (LQ.seq (Par.q intP) (LQ.seq (LP.q lineL) (Par.q strsP))))))))
noncomputable def p_keep_LinePlays_l1 : Pat := ⟨[0, 3, 4, 5, 127, 128], [.pub 0, .nilsl 0 (.carries []), .nilown 4 9 (.strs [])]⟩
noncomputable def s_keep_LinePlays_l1 : List BS := [.cells 36 4, .rows 9]
noncomputable def q_keep_LinePlays_l1_e0 : LQ (Bool) := (Par.q boolP)
noncomputable def p_keep_LinePlays_l1_e0 : Pat := ⟨[2], []⟩
noncomputable def s_keep_LinePlays_l1_e0 : List BS := []
noncomputable def q_keep_LinePlays_l1_e1 : LQ ((List Carry) × Int × Line × (List ByteArray)) := (LQ.seq (Par.q carriesP) (LQ.skip (LQ.const (.ptr 0 0)) (LQ.skip (LQ.const (.own 1)) (LQ.seq (Par.q intP) (LQ.seq (LP.q lineL) (Par.q strsP))))))
noncomputable def p_keep_LinePlays_l1_e1 : Pat := ⟨[0, 3, 4, 5], [.pub 0, .nilsl 0 (.carries []), .nilown 4 9 (.strs [])]⟩
noncomputable def s_keep_LinePlays_l1_e1 : List BS := [.cells 36 4, .rows 9]
noncomputable def L_keep_LinePlays_l1 : St → Option LR := pieceL q_keep_LinePlays_l1 142 0 p_keep_LinePlays_l1 s_keep_LinePlays_l1 (fun o => LR.two o (fun r => (.ret, stP q_keep_LinePlays_l1_e0 142 8 p_keep_LinePlays_l1_e0 s_keep_LinePlays_l1_e0 r)) (fun r => (.exit 3, stP q_keep_LinePlays_l1_e1 142 8 p_keep_LinePlays_l1_e1 s_keep_LinePlays_l1_e1 r))) (fun a => iter (fun s : (List Carry) × Int × Int × Int × Line × (List ByteArray) => (T_keep_LinePlays_l1 s.1 s.2.1 s.2.2.1 s.2.2.2.1 s.2.2.2.2.1 s.2.2.2.2.2).run) a)
noncomputable def E_keep_LinePlays_l1 : Exit → Option (End (((List Carry) × Int × Int × Int × Line × (List ByteArray)) ⊕ ((Bool) ⊕ ((List Carry) × Int × Line × (List ByteArray)))))
  | .normal => some ⟨_, q_keep_LinePlays_l1, p_keep_LinePlays_l1, s_keep_LinePlays_l1, fun b => .inl b⟩
  | .ret => some ⟨_, q_keep_LinePlays_l1_e0, p_keep_LinePlays_l1_e0, s_keep_LinePlays_l1_e0, fun b => .inr (.inl b)⟩
  | .exit 3 => some ⟨_, q_keep_LinePlays_l1_e1, p_keep_LinePlays_l1_e1, s_keep_LinePlays_l1_e1, fun b => .inr (.inr b)⟩
  | _ => none
noncomputable def O_keep_LinePlays_l1 : (((List Carry) × Int × Int × Int × Line × (List ByteArray)) ⊕ ((Bool) ⊕ ((List Carry) × Int × Line × (List ByteArray)))) → Exit × St
  | .inl b => (.normal, stP q_keep_LinePlays_l1 142 8 p_keep_LinePlays_l1 s_keep_LinePlays_l1 b)
  | .inr (.inl b) => (.ret, stP q_keep_LinePlays_l1_e0 142 8 p_keep_LinePlays_l1_e0 s_keep_LinePlays_l1_e0 b)
  | .inr (.inr b) => (.exit 3, stP q_keep_LinePlays_l1_e1 142 8 p_keep_LinePlays_l1_e1 s_keep_LinePlays_l1_e1 b)
theorem lok_keep_LinePlays_l1 : PieceOk (Y_keep_LinePlays).env 0 (sub C_keep_LinePlays [0, 1, 1, 1, 1, 1, 1, 0, 0, 1, 0, 0, 1, 0, 1, 1, 1, 1]) L_keep_LinePlays_l1 :=
  loop_ok (Y := Y_keep_LinePlays) (A := A_keep_LinePlays_l1) hY_keep_LinePlays Facts.mix (root := C_keep_LinePlays) (L := 0) trivial (π := [0, 1, 1, 1, 1, 1, 1, 0, 0, 1, 0, 0, 1, 0, 1, 1, 1, 1]) (c := loopB (sub C_keep_LinePlays [0, 1, 1, 1, 1, 1, 1, 0, 0, 1, 0, 0, 1, 0, 1, 1, 1, 1])) (by kernel_rfl) q_keep_LinePlays_l1 142 8 p_keep_LinePlays_l1 s_keep_LinePlays_l1 E_keep_LinePlays_l1 (fun s => T_keep_LinePlays_l1 s.1 s.2.1 s.2.2.1 s.2.2.2.1 s.2.2.2.2.1 s.2.2.2.2.2) O_keep_LinePlays_l1 (by intro e d h b; unfold E_keep_LinePlays_l1 at h; split at h <;> first | (cases h; rfl) | cases h) (fun _ => rfl) (by intro r; cases r <;> exact (fun h => by cases h)) (fun o => LR.two o (fun r => (.ret, stP q_keep_LinePlays_l1_e0 142 8 p_keep_LinePlays_l1_e0 s_keep_LinePlays_l1_e0 r)) (fun r => (.exit 3, stP q_keep_LinePlays_l1_e1 142 8 p_keep_LinePlays_l1_e1 s_keep_LinePlays_l1_e1 r))) (by intro o Q h; exact Or.elim h (fun ⟨v, h1, h2⟩ => ⟨_, h1, h2⟩) (fun ⟨v, h1, h2⟩ => ⟨_, h1, h2⟩))
    (by rintro ⟨x0, x1, x2, x3, x4, x5⟩; kernel_rfl)
noncomputable def T_keep_LinePlays_l2 (x0 : (List Carry)) (x1 : Int) (x2 : Int) (x3 : Int) (x4 : Line) (x5 : (List ByteArray)) : Tr (((List Carry) × Int × Int × Int × Line × (List ByteArray)) ⊕ ((Bool) ⊕ ((List Carry) × Int × Line × (List ByteArray)))) :=
  (.ite (decide (x3 < x2))
    (.guard ((0 : Int) ≤ x3 ∧ x3 < ((Sl.len (.strs x5) : Nat) : Int))
    (.guard ((0 : Int) ≤ x3 ∧ x3 < ((Sl.len (.strs x4.Said) : Nat) : Int))
    (.ite (!((x5.getD x3.toNat .empty).toList == (x4.Said.getD x3.toNat .empty).toList))
      (.leaf (.inr (.inl false)))
      (.leaf (.inl (x0, x1, x2, IntKind.i64.wrap (x3 + 1), x4, x5))))))
    (.leaf (.inr (.inr (x0, x1, x4, x5)))))
noncomputable def sh_keep_LinePlays_l2 (x0 : (List Carry)) (x1 : Int) (x2 : Int) (x3 : Int) (x4 : Line) (x5 : (List ByteArray)) : Option ((Bool) ⊕ ((List Carry) × Int × Line × (List ByteArray))) := iter (fun s : (List Carry) × Int × Int × Int × Line × (List ByteArray) => (T_keep_LinePlays_l2 s.1 s.2.1 s.2.2.1 s.2.2.2.1 s.2.2.2.2.1 s.2.2.2.2.2).run) (x0, x1, x2, x3, x4, x5)
noncomputable def A_keep_LinePlays_l2 : Ann := ⟨[], [], [], live_keep_LinePlays, [(16, [3])]⟩
noncomputable def q_keep_LinePlays_l2 : LQ ((List Carry) × Int × Int × Int × Line × (List ByteArray)) := (LQ.seq (Par.q carriesP) (LQ.skip (LQ.const (.ptr 0 0)) (LQ.skip (LQ.const (.own 1)) (LQ.seq (Par.q intP) (LQ.seq (Par.q intP) (LQ.seq (Par.q intP) (LQ.seq (LP.q lineL) (Par.q strsP))))))))
noncomputable def p_keep_LinePlays_l2 : Pat := ⟨[0, 3, 4, 5, 127, 128], [.pub 0, .nilsl 0 (.carries []), .nilown 4 9 (.strs [])]⟩
noncomputable def s_keep_LinePlays_l2 : List BS := [.cells 36 4, .rows 9]
noncomputable def q_keep_LinePlays_l2_e0 : LQ (Bool) := (Par.q boolP)
noncomputable def p_keep_LinePlays_l2_e0 : Pat := ⟨[2], []⟩
noncomputable def s_keep_LinePlays_l2_e0 : List BS := []
noncomputable def q_keep_LinePlays_l2_e1 : LQ ((List Carry) × Int × Line × (List ByteArray)) := (LQ.seq (Par.q carriesP) (LQ.skip (LQ.const (.ptr 0 0)) (LQ.skip (LQ.const (.own 1)) (LQ.seq (Par.q intP) (LQ.seq (LP.q lineL) (Par.q strsP))))))
noncomputable def p_keep_LinePlays_l2_e1 : Pat := ⟨[0, 3, 4, 5], [.pub 0, .nilsl 0 (.carries []), .nilown 4 9 (.strs [])]⟩
noncomputable def s_keep_LinePlays_l2_e1 : List BS := [.cells 36 4, .rows 9]
noncomputable def L_keep_LinePlays_l2 : St → Option LR := pieceL q_keep_LinePlays_l2 142 0 p_keep_LinePlays_l2 s_keep_LinePlays_l2 (fun o => LR.two o (fun r => (.ret, stP q_keep_LinePlays_l2_e0 142 8 p_keep_LinePlays_l2_e0 s_keep_LinePlays_l2_e0 r)) (fun r => (.exit 3, stP q_keep_LinePlays_l2_e1 142 8 p_keep_LinePlays_l2_e1 s_keep_LinePlays_l2_e1 r))) (fun a => iter (fun s : (List Carry) × Int × Int × Int × Line × (List ByteArray) => (T_keep_LinePlays_l2 s.1 s.2.1 s.2.2.1 s.2.2.2.1 s.2.2.2.2.1 s.2.2.2.2.2).run) a)
noncomputable def E_keep_LinePlays_l2 : Exit → Option (End (((List Carry) × Int × Int × Int × Line × (List ByteArray)) ⊕ ((Bool) ⊕ ((List Carry) × Int × Line × (List ByteArray)))))
  | .normal => some ⟨_, q_keep_LinePlays_l2, p_keep_LinePlays_l2, s_keep_LinePlays_l2, fun b => .inl b⟩
  | .ret => some ⟨_, q_keep_LinePlays_l2_e0, p_keep_LinePlays_l2_e0, s_keep_LinePlays_l2_e0, fun b => .inr (.inl b)⟩
  | .exit 3 => some ⟨_, q_keep_LinePlays_l2_e1, p_keep_LinePlays_l2_e1, s_keep_LinePlays_l2_e1, fun b => .inr (.inr b)⟩
  | _ => none
noncomputable def O_keep_LinePlays_l2 : (((List Carry) × Int × Int × Int × Line × (List ByteArray)) ⊕ ((Bool) ⊕ ((List Carry) × Int × Line × (List ByteArray)))) → Exit × St
  | .inl b => (.normal, stP q_keep_LinePlays_l2 142 8 p_keep_LinePlays_l2 s_keep_LinePlays_l2 b)
  | .inr (.inl b) => (.ret, stP q_keep_LinePlays_l2_e0 142 8 p_keep_LinePlays_l2_e0 s_keep_LinePlays_l2_e0 b)
  | .inr (.inr b) => (.exit 3, stP q_keep_LinePlays_l2_e1 142 8 p_keep_LinePlays_l2_e1 s_keep_LinePlays_l2_e1 b)
theorem lok_keep_LinePlays_l2 : PieceOk (Y_keep_LinePlays).env 0 (sub C_keep_LinePlays [0, 1, 1, 1, 1, 1, 1, 0, 0, 1, 0, 0, 1, 0, 1, 1, 1, 1]) L_keep_LinePlays_l2 :=
  loop_ok (Y := Y_keep_LinePlays) (A := A_keep_LinePlays_l2) hY_keep_LinePlays Facts.mix (root := C_keep_LinePlays) (L := 0) trivial (π := [0, 1, 1, 1, 1, 1, 1, 0, 0, 1, 0, 0, 1, 0, 1, 1, 1, 1]) (c := loopB (sub C_keep_LinePlays [0, 1, 1, 1, 1, 1, 1, 0, 0, 1, 0, 0, 1, 0, 1, 1, 1, 1])) (by kernel_rfl) q_keep_LinePlays_l2 142 8 p_keep_LinePlays_l2 s_keep_LinePlays_l2 E_keep_LinePlays_l2 (fun s => T_keep_LinePlays_l2 s.1 s.2.1 s.2.2.1 s.2.2.2.1 s.2.2.2.2.1 s.2.2.2.2.2) O_keep_LinePlays_l2 (by intro e d h b; unfold E_keep_LinePlays_l2 at h; split at h <;> first | (cases h; rfl) | cases h) (fun _ => rfl) (by intro r; cases r <;> exact (fun h => by cases h)) (fun o => LR.two o (fun r => (.ret, stP q_keep_LinePlays_l2_e0 142 8 p_keep_LinePlays_l2_e0 s_keep_LinePlays_l2_e0 r)) (fun r => (.exit 3, stP q_keep_LinePlays_l2_e1 142 8 p_keep_LinePlays_l2_e1 s_keep_LinePlays_l2_e1 r))) (by intro o Q h; exact Or.elim h (fun ⟨v, h1, h2⟩ => ⟨_, h1, h2⟩) (fun ⟨v, h1, h2⟩ => ⟨_, h1, h2⟩))
    (by rintro ⟨x0, x1, x2, x3, x4, x5⟩; kernel_rfl)
noncomputable def T_keep_LinePlays_l3 (x0 : (List Carry)) (x1 : Int) (x2 : Int) (x3 : Int) (x4 : Line) (x5 : (List ByteArray)) : Tr (((List Carry) × Int × Int × Int × Line × (List ByteArray)) ⊕ ((Bool) ⊕ ((List Carry) × Int × Line × (List ByteArray)))) :=
  (.ite (decide (x3 < x2))
    (.guard ((0 : Int) ≤ x3 ∧ x3 < ((Sl.len (.strs x5) : Nat) : Int))
    (.guard ((0 : Int) ≤ x3 ∧ x3 < ((Sl.len (.strs x4.Said) : Nat) : Int))
    (.ite (!((x5.getD x3.toNat .empty).toList == (x4.Said.getD x3.toNat .empty).toList))
      (.leaf (.inr (.inl false)))
      (.leaf (.inl (x0, x1, x2, IntKind.i64.wrap (x3 + 1), x4, x5))))))
    (.leaf (.inr (.inr (x0, x1, x4, x5)))))
noncomputable def sh_keep_LinePlays_l3 (x0 : (List Carry)) (x1 : Int) (x2 : Int) (x3 : Int) (x4 : Line) (x5 : (List ByteArray)) : Option ((Bool) ⊕ ((List Carry) × Int × Line × (List ByteArray))) := iter (fun s : (List Carry) × Int × Int × Int × Line × (List ByteArray) => (T_keep_LinePlays_l3 s.1 s.2.1 s.2.2.1 s.2.2.2.1 s.2.2.2.2.1 s.2.2.2.2.2).run) (x0, x1, x2, x3, x4, x5)
noncomputable def A_keep_LinePlays_l3 : Ann := ⟨[], [], [], live_keep_LinePlays, [(16, [3])]⟩
noncomputable def q_keep_LinePlays_l3 : LQ ((List Carry) × Int × Int × Int × Line × (List ByteArray)) := (LQ.seq (Par.q carriesP) (LQ.skip (LQ.const (.ptr 0 0)) (LQ.skip (LQ.const (.own 1)) (LQ.seq (Par.q intP) (LQ.seq (Par.q intP) (LQ.seq (Par.q intP) (LQ.seq (LP.q lineL) (Par.q strsP))))))))
noncomputable def p_keep_LinePlays_l3 : Pat := ⟨[0, 3, 4, 5, 127, 128], [.pub 0, .nilsl 0 (.carries []), .nilown 4 9 (.strs [])]⟩
noncomputable def s_keep_LinePlays_l3 : List BS := [.cells 36 4, .rows 9]
noncomputable def q_keep_LinePlays_l3_e0 : LQ (Bool) := (Par.q boolP)
noncomputable def p_keep_LinePlays_l3_e0 : Pat := ⟨[2], []⟩
noncomputable def s_keep_LinePlays_l3_e0 : List BS := []
noncomputable def q_keep_LinePlays_l3_e1 : LQ ((List Carry) × Int × Line × (List ByteArray)) := (LQ.seq (Par.q carriesP) (LQ.skip (LQ.const (.ptr 0 0)) (LQ.skip (LQ.const (.own 1)) (LQ.seq (Par.q intP) (LQ.seq (LP.q lineL) (Par.q strsP))))))
noncomputable def p_keep_LinePlays_l3_e1 : Pat := ⟨[0, 3, 4, 5], [.pub 0, .nilsl 0 (.carries []), .nilown 4 9 (.strs [])]⟩
noncomputable def s_keep_LinePlays_l3_e1 : List BS := [.cells 36 4, .rows 9]
noncomputable def L_keep_LinePlays_l3 : St → Option LR := pieceL q_keep_LinePlays_l3 142 0 p_keep_LinePlays_l3 s_keep_LinePlays_l3 (fun o => LR.two o (fun r => (.ret, stP q_keep_LinePlays_l3_e0 142 8 p_keep_LinePlays_l3_e0 s_keep_LinePlays_l3_e0 r)) (fun r => (.exit 3, stP q_keep_LinePlays_l3_e1 142 8 p_keep_LinePlays_l3_e1 s_keep_LinePlays_l3_e1 r))) (fun a => iter (fun s : (List Carry) × Int × Int × Int × Line × (List ByteArray) => (T_keep_LinePlays_l3 s.1 s.2.1 s.2.2.1 s.2.2.2.1 s.2.2.2.2.1 s.2.2.2.2.2).run) a)
noncomputable def E_keep_LinePlays_l3 : Exit → Option (End (((List Carry) × Int × Int × Int × Line × (List ByteArray)) ⊕ ((Bool) ⊕ ((List Carry) × Int × Line × (List ByteArray)))))
  | .normal => some ⟨_, q_keep_LinePlays_l3, p_keep_LinePlays_l3, s_keep_LinePlays_l3, fun b => .inl b⟩
  | .ret => some ⟨_, q_keep_LinePlays_l3_e0, p_keep_LinePlays_l3_e0, s_keep_LinePlays_l3_e0, fun b => .inr (.inl b)⟩
  | .exit 3 => some ⟨_, q_keep_LinePlays_l3_e1, p_keep_LinePlays_l3_e1, s_keep_LinePlays_l3_e1, fun b => .inr (.inr b)⟩
  | _ => none
noncomputable def O_keep_LinePlays_l3 : (((List Carry) × Int × Int × Int × Line × (List ByteArray)) ⊕ ((Bool) ⊕ ((List Carry) × Int × Line × (List ByteArray)))) → Exit × St
  | .inl b => (.normal, stP q_keep_LinePlays_l3 142 8 p_keep_LinePlays_l3 s_keep_LinePlays_l3 b)
  | .inr (.inl b) => (.ret, stP q_keep_LinePlays_l3_e0 142 8 p_keep_LinePlays_l3_e0 s_keep_LinePlays_l3_e0 b)
  | .inr (.inr b) => (.exit 3, stP q_keep_LinePlays_l3_e1 142 8 p_keep_LinePlays_l3_e1 s_keep_LinePlays_l3_e1 b)
theorem lok_keep_LinePlays_l3 : PieceOk (Y_keep_LinePlays).env 0 (sub C_keep_LinePlays [0, 1, 1, 1, 1, 1, 1, 0, 0, 1, 0, 0, 1, 0, 1, 1, 1, 1]) L_keep_LinePlays_l3 :=
  loop_ok (Y := Y_keep_LinePlays) (A := A_keep_LinePlays_l3) hY_keep_LinePlays Facts.mix (root := C_keep_LinePlays) (L := 0) trivial (π := [0, 1, 1, 1, 1, 1, 1, 0, 0, 1, 0, 0, 1, 0, 1, 1, 1, 1]) (c := loopB (sub C_keep_LinePlays [0, 1, 1, 1, 1, 1, 1, 0, 0, 1, 0, 0, 1, 0, 1, 1, 1, 1])) (by kernel_rfl) q_keep_LinePlays_l3 142 8 p_keep_LinePlays_l3 s_keep_LinePlays_l3 E_keep_LinePlays_l3 (fun s => T_keep_LinePlays_l3 s.1 s.2.1 s.2.2.1 s.2.2.2.1 s.2.2.2.2.1 s.2.2.2.2.2) O_keep_LinePlays_l3 (by intro e d h b; unfold E_keep_LinePlays_l3 at h; split at h <;> first | (cases h; rfl) | cases h) (fun _ => rfl) (by intro r; cases r <;> exact (fun h => by cases h)) (fun o => LR.two o (fun r => (.ret, stP q_keep_LinePlays_l3_e0 142 8 p_keep_LinePlays_l3_e0 s_keep_LinePlays_l3_e0 r)) (fun r => (.exit 3, stP q_keep_LinePlays_l3_e1 142 8 p_keep_LinePlays_l3_e1 s_keep_LinePlays_l3_e1 r))) (by intro o Q h; exact Or.elim h (fun ⟨v, h1, h2⟩ => ⟨_, h1, h2⟩) (fun ⟨v, h1, h2⟩ => ⟨_, h1, h2⟩))
    (by rintro ⟨x0, x1, x2, x3, x4, x5⟩; kernel_rfl)
noncomputable def T_keep_LinePlays_l4 (x0 : (List Carry)) (x1 : Int) (x2 : Int) (x3 : Int) (x4 : Line) (x5 : (List ByteArray)) : Tr (((List Carry) × Int × Int × Int × Line × (List ByteArray)) ⊕ ((Bool) ⊕ ((List Carry) × Int × Line × (List ByteArray)))) :=
  (.ite (decide (x3 < x2))
    (.guard ((0 : Int) ≤ x3 ∧ x3 < ((Sl.len (.strs x5) : Nat) : Int))
    (.guard ((0 : Int) ≤ x3 ∧ x3 < ((Sl.len (.strs x4.Said) : Nat) : Int))
    (.ite (!((x5.getD x3.toNat .empty).toList == (x4.Said.getD x3.toNat .empty).toList))
      (.leaf (.inr (.inl false)))
      (.leaf (.inl (x0, x1, x2, IntKind.i64.wrap (x3 + 1), x4, x5))))))
    (.leaf (.inr (.inr (x0, x1, x4, x5)))))
noncomputable def sh_keep_LinePlays_l4 (x0 : (List Carry)) (x1 : Int) (x2 : Int) (x3 : Int) (x4 : Line) (x5 : (List ByteArray)) : Option ((Bool) ⊕ ((List Carry) × Int × Line × (List ByteArray))) := iter (fun s : (List Carry) × Int × Int × Int × Line × (List ByteArray) => (T_keep_LinePlays_l4 s.1 s.2.1 s.2.2.1 s.2.2.2.1 s.2.2.2.2.1 s.2.2.2.2.2).run) (x0, x1, x2, x3, x4, x5)
noncomputable def A_keep_LinePlays_l4 : Ann := ⟨[], [], [], live_keep_LinePlays, [(16, [3])]⟩
noncomputable def q_keep_LinePlays_l4 : LQ ((List Carry) × Int × Int × Int × Line × (List ByteArray)) := (LQ.seq (Par.q carriesP) (LQ.skip (LQ.const (.ptr 0 0)) (LQ.skip (LQ.const (.own 1)) (LQ.seq (Par.q intP) (LQ.seq (Par.q intP) (LQ.seq (Par.q intP) (LQ.seq (LP.q lineL) (Par.q strsP))))))))
noncomputable def p_keep_LinePlays_l4 : Pat := ⟨[0, 3, 4, 5, 127, 128], [.pub 0, .nilsl 0 (.carries []), .nilown 4 9 (.strs [])]⟩
noncomputable def s_keep_LinePlays_l4 : List BS := [.cells 36 4, .rows 9]
noncomputable def q_keep_LinePlays_l4_e0 : LQ (Bool) := (Par.q boolP)
noncomputable def p_keep_LinePlays_l4_e0 : Pat := ⟨[2], []⟩
noncomputable def s_keep_LinePlays_l4_e0 : List BS := []
noncomputable def q_keep_LinePlays_l4_e1 : LQ ((List Carry) × Int × Line × (List ByteArray)) := (LQ.seq (Par.q carriesP) (LQ.skip (LQ.const (.ptr 0 0)) (LQ.skip (LQ.const (.own 1)) (LQ.seq (Par.q intP) (LQ.seq (LP.q lineL) (Par.q strsP))))))
noncomputable def p_keep_LinePlays_l4_e1 : Pat := ⟨[0, 3, 4, 5], [.pub 0, .nilsl 0 (.carries []), .nilown 4 9 (.strs [])]⟩
noncomputable def s_keep_LinePlays_l4_e1 : List BS := [.cells 36 4, .rows 9]
noncomputable def L_keep_LinePlays_l4 : St → Option LR := pieceL q_keep_LinePlays_l4 142 0 p_keep_LinePlays_l4 s_keep_LinePlays_l4 (fun o => LR.two o (fun r => (.ret, stP q_keep_LinePlays_l4_e0 142 8 p_keep_LinePlays_l4_e0 s_keep_LinePlays_l4_e0 r)) (fun r => (.exit 3, stP q_keep_LinePlays_l4_e1 142 8 p_keep_LinePlays_l4_e1 s_keep_LinePlays_l4_e1 r))) (fun a => iter (fun s : (List Carry) × Int × Int × Int × Line × (List ByteArray) => (T_keep_LinePlays_l4 s.1 s.2.1 s.2.2.1 s.2.2.2.1 s.2.2.2.2.1 s.2.2.2.2.2).run) a)
noncomputable def E_keep_LinePlays_l4 : Exit → Option (End (((List Carry) × Int × Int × Int × Line × (List ByteArray)) ⊕ ((Bool) ⊕ ((List Carry) × Int × Line × (List ByteArray)))))
  | .normal => some ⟨_, q_keep_LinePlays_l4, p_keep_LinePlays_l4, s_keep_LinePlays_l4, fun b => .inl b⟩
  | .ret => some ⟨_, q_keep_LinePlays_l4_e0, p_keep_LinePlays_l4_e0, s_keep_LinePlays_l4_e0, fun b => .inr (.inl b)⟩
  | .exit 3 => some ⟨_, q_keep_LinePlays_l4_e1, p_keep_LinePlays_l4_e1, s_keep_LinePlays_l4_e1, fun b => .inr (.inr b)⟩
  | _ => none
noncomputable def O_keep_LinePlays_l4 : (((List Carry) × Int × Int × Int × Line × (List ByteArray)) ⊕ ((Bool) ⊕ ((List Carry) × Int × Line × (List ByteArray)))) → Exit × St
  | .inl b => (.normal, stP q_keep_LinePlays_l4 142 8 p_keep_LinePlays_l4 s_keep_LinePlays_l4 b)
  | .inr (.inl b) => (.ret, stP q_keep_LinePlays_l4_e0 142 8 p_keep_LinePlays_l4_e0 s_keep_LinePlays_l4_e0 b)
  | .inr (.inr b) => (.exit 3, stP q_keep_LinePlays_l4_e1 142 8 p_keep_LinePlays_l4_e1 s_keep_LinePlays_l4_e1 b)
theorem lok_keep_LinePlays_l4 : PieceOk (Y_keep_LinePlays).env 0 (sub C_keep_LinePlays [0, 1, 1, 1, 1, 1, 1, 0, 0, 1, 0, 0, 1, 0, 1, 1, 1, 1]) L_keep_LinePlays_l4 :=
  loop_ok (Y := Y_keep_LinePlays) (A := A_keep_LinePlays_l4) hY_keep_LinePlays Facts.mix (root := C_keep_LinePlays) (L := 0) trivial (π := [0, 1, 1, 1, 1, 1, 1, 0, 0, 1, 0, 0, 1, 0, 1, 1, 1, 1]) (c := loopB (sub C_keep_LinePlays [0, 1, 1, 1, 1, 1, 1, 0, 0, 1, 0, 0, 1, 0, 1, 1, 1, 1])) (by kernel_rfl) q_keep_LinePlays_l4 142 8 p_keep_LinePlays_l4 s_keep_LinePlays_l4 E_keep_LinePlays_l4 (fun s => T_keep_LinePlays_l4 s.1 s.2.1 s.2.2.1 s.2.2.2.1 s.2.2.2.2.1 s.2.2.2.2.2) O_keep_LinePlays_l4 (by intro e d h b; unfold E_keep_LinePlays_l4 at h; split at h <;> first | (cases h; rfl) | cases h) (fun _ => rfl) (by intro r; cases r <;> exact (fun h => by cases h)) (fun o => LR.two o (fun r => (.ret, stP q_keep_LinePlays_l4_e0 142 8 p_keep_LinePlays_l4_e0 s_keep_LinePlays_l4_e0 r)) (fun r => (.exit 3, stP q_keep_LinePlays_l4_e1 142 8 p_keep_LinePlays_l4_e1 s_keep_LinePlays_l4_e1 r))) (by intro o Q h; exact Or.elim h (fun ⟨v, h1, h2⟩ => ⟨_, h1, h2⟩) (fun ⟨v, h1, h2⟩ => ⟨_, h1, h2⟩))
    (by rintro ⟨x0, x1, x2, x3, x4, x5⟩; kernel_rfl)
noncomputable def T_keep_LinePlays_l5 (x0 : (List Carry)) (x1 : Int) (x2 : Line) (x3 : (List ByteArray)) : Tr (((List Carry) × Int × Line × (List ByteArray)) ⊕ ((Bool) ⊕ (Unit))) :=
  (.ite ((decide (x1 < ((x0.length : Nat) : Int))) && (decide (x1 < 80)))
    (.guard ((0 : Int) ≤ x1 ∧ x1 < ((Sl.len (.carries x0) : Nat) : Int))
    (.bind (sh_keep_pick ((x0.getD x1.toNat default).Kind) 3) fun v2 =>
    (.ite (v2 == 0)
      (.guard ((sh_keep_pick ((x0.getD x1.toNat default).Time) 100).isSome = true)
      (.guard ((sh_line_Say x2 ((x0.getD x1.toNat default).S) ((sh_keep_pick ((x0.getD x1.toNat default).Time) 100).getD default)).isSome = true)
      (.bind (sh_line_Good (((sh_line_Say x2 ((x0.getD x1.toNat default).S) ((sh_keep_pick ((x0.getD x1.toNat default).Time) 100).getD default)).getD default).1)) fun v3 =>
      (.ite ((((!v3) || (x2.Closed && ((!((((sh_line_Say x2 ((x0.getD x1.toNat default).S) ((sh_keep_pick ((x0.getD x1.toNat default).Time) 100).getD default)).getD default).1).Closed)) || ((((sh_line_Say x2 ((x0.getD x1.toNat default).S) ((sh_keep_pick ((x0.getD x1.toNat default).Time) 100).getD default)).getD default).2) == 0)))) || (decide (((((sh_line_Say x2 ((x0.getD x1.toNat default).S) ((sh_keep_pick ((x0.getD x1.toNat default).Time) 100).getD default)).getD default).1).Got) < x2.Got))) || (((x3.length : Nat) : Int) != ((((sh_line_Say x2 ((x0.getD x1.toNat default).S) ((sh_keep_pick ((x0.getD x1.toNat default).Time) 100).getD default)).getD default).1).Got)))
        (.leaf (.inr (.inl false)))
        (.two (sh_keep_LinePlays_l1 x0 x1 ((x3.length : Nat) : Int) 0 (((sh_line_Say x2 ((x0.getD x1.toNat default).S) ((sh_keep_pick ((x0.getD x1.toNat default).Time) 100).getD default)).getD default).1) x3) (fun v4 =>
          (.leaf (.inr (.inl v4)))) (fun v5 =>
          (.leaf (.inl (v5.1, IntKind.i64.wrap (v5.2.1 + 1), v5.2.2.1, v5.2.2.2)))))))))
      (.ite (v2 == 1)
        (.bind (sh_line_Deliver x2 ((x0.getD x1.toNat default).K) ((x0.getD x1.toNat default).S) ((x0.getD x1.toNat default).Said) ((x0.getD x1.toNat default).Time)) fun v6 =>
        (.ite (v6.2 == 0)
          (.guard ((Sl.len (.strs x3) + Sl.len (.strs [(x0.getD x1.toNat default).S])) * 16 ≤ 140737488355328)
          (.bind (sh_line_Good v6.1) fun v7 =>
          (.ite ((((!v7) || (x2.Closed && ((!v6.1.Closed) || (v6.2 == 0)))) || (decide (v6.1.Got < x2.Got))) || ((((x3 ++ [(x0.getD x1.toNat default).S]).length : Nat) : Int) != v6.1.Got))
            (.leaf (.inr (.inl false)))
            (.two (sh_keep_LinePlays_l2 x0 x1 (((x3 ++ [(x0.getD x1.toNat default).S]).length : Nat) : Int) 0 v6.1 (x3 ++ [(x0.getD x1.toNat default).S])) (fun v8 =>
              (.leaf (.inr (.inl v8)))) (fun v9 =>
              (.leaf (.inl (v9.1, IntKind.i64.wrap (v9.2.1 + 1), v9.2.2.1, v9.2.2.2))))))))
          (.bind (sh_line_Good v6.1) fun v10 =>
          (.ite ((((!v10) || (x2.Closed && ((!v6.1.Closed) || (v6.2 == 0)))) || (decide (v6.1.Got < x2.Got))) || (((x3.length : Nat) : Int) != v6.1.Got))
            (.leaf (.inr (.inl false)))
            (.two (sh_keep_LinePlays_l3 x0 x1 ((x3.length : Nat) : Int) 0 v6.1 x3) (fun v11 =>
              (.leaf (.inr (.inl v11)))) (fun v12 =>
              (.leaf (.inl (v12.1, IntKind.i64.wrap (v12.2.1 + 1), v12.2.2.1, v12.2.2.2)))))))))
        (.bind (sh_line_Expire x2 ((x0.getD x1.toNat default).K) ((x0.getD x1.toNat default).Time) x2.Got) fun v13 =>
        (.guard (((decide (((x0.getD x1.toNat default).K) ≤ x2.Got)) = false → ((v13.2 == 0) = true → ((0 : Int) ≤ (IntKind.i64.wrap (((x0.getD x1.toNat default).K) - 1)) ∧ (IntKind.i64.wrap (((x0.getD x1.toNat default).K) - 1)) < ((Sl.len (.ints x2.Due) : Nat) : Int)) ∧ True)))
        (.ite ((v13.2 == 0) && ((decide (((x0.getD x1.toNat default).K) ≤ x2.Got)) || (decide (((x0.getD x1.toNat default).Time) < (x2.Due.getD ((IntKind.i64.wrap (((x0.getD x1.toNat default).K) - 1)).toNat) 0)))))
          (.leaf (.inr (.inl false)))
          (.bind (sh_line_Good v13.1) fun v14 =>
          (.ite ((((!v14) || (x2.Closed && ((!v13.1.Closed) || (v13.2 == 0)))) || (decide (v13.1.Got < x2.Got))) || (((x3.length : Nat) : Int) != v13.1.Got))
            (.leaf (.inr (.inl false)))
            (.two (sh_keep_LinePlays_l4 x0 x1 ((x3.length : Nat) : Int) 0 v13.1 x3) (fun v15 =>
              (.leaf (.inr (.inl v15)))) (fun v16 =>
              (.leaf (.inl (v16.1, IntKind.i64.wrap (v16.2.1 + 1), v16.2.2.1, v16.2.2.2))))))))))))))
    (.leaf (.inr (.inr ()))))
noncomputable def sh_keep_LinePlays_l5 (x0 : (List Carry)) (x1 : Int) (x2 : Line) (x3 : (List ByteArray)) : Option ((Bool) ⊕ (Unit)) := iter (fun s : (List Carry) × Int × Line × (List ByteArray) => (T_keep_LinePlays_l5 s.1 s.2.1 s.2.2.1 s.2.2.2).run) (x0, x1, x2, x3)
noncomputable def A_keep_LinePlays_l5 : Ann := ⟨[([0, 1, 1, 1, 1, 1, 1, 0, 0, 1, 0, 0, 1, 0, 1, 1, 1, 1], L_keep_LinePlays_l4)], [], [], live_keep_LinePlays, [(16, [3])]⟩
noncomputable def q_keep_LinePlays_l5 : LQ ((List Carry) × Int × Line × (List ByteArray)) := (LQ.seq (Par.q carriesP) (LQ.skip (LQ.const (.ptr 0 0)) (LQ.skip (LQ.const (.own 1)) (LQ.seq (Par.q intP) (LQ.seq (LP.q lineL) (Par.q strsP))))))
noncomputable def p_keep_LinePlays_l5 : Pat := ⟨[0, 3, 4, 5], [.pub 0, .nilsl 0 (.carries []), .pubB 3, .nilown 4 9 (.strs [])]⟩
noncomputable def s_keep_LinePlays_l5 : List BS := [.cells 36 4, .rows 9]
noncomputable def q_keep_LinePlays_l5_e0 : LQ (Bool) := (Par.q boolP)
noncomputable def p_keep_LinePlays_l5_e0 : Pat := ⟨[2], []⟩
noncomputable def s_keep_LinePlays_l5_e0 : List BS := []
noncomputable def q_keep_LinePlays_l5_e1 : LQ (Unit) := LQ.nil
noncomputable def p_keep_LinePlays_l5_e1 : Pat := ⟨[], []⟩
noncomputable def s_keep_LinePlays_l5_e1 : List BS := []
noncomputable def L_keep_LinePlays_l5 : St → Option LR := pieceL q_keep_LinePlays_l5 142 0 p_keep_LinePlays_l5 s_keep_LinePlays_l5 (fun o => LR.two o (fun r => (.ret, stP q_keep_LinePlays_l5_e0 142 8 p_keep_LinePlays_l5_e0 s_keep_LinePlays_l5_e0 r)) (fun r => (.exit 0, stP q_keep_LinePlays_l5_e1 142 8 p_keep_LinePlays_l5_e1 s_keep_LinePlays_l5_e1 r))) (fun a => iter (fun s : (List Carry) × Int × Line × (List ByteArray) => (T_keep_LinePlays_l5 s.1 s.2.1 s.2.2.1 s.2.2.2).run) a)
noncomputable def E_keep_LinePlays_l5 : Exit → Option (End (((List Carry) × Int × Line × (List ByteArray)) ⊕ ((Bool) ⊕ (Unit))))
  | .normal => some ⟨_, q_keep_LinePlays_l5, p_keep_LinePlays_l5, s_keep_LinePlays_l5, fun b => .inl b⟩
  | .ret => some ⟨_, q_keep_LinePlays_l5_e0, p_keep_LinePlays_l5_e0, s_keep_LinePlays_l5_e0, fun b => .inr (.inl b)⟩
  | .exit 0 => some ⟨_, q_keep_LinePlays_l5_e1, p_keep_LinePlays_l5_e1, s_keep_LinePlays_l5_e1, fun b => .inr (.inr b)⟩
  | _ => none
noncomputable def O_keep_LinePlays_l5 : (((List Carry) × Int × Line × (List ByteArray)) ⊕ ((Bool) ⊕ (Unit))) → Exit × St
  | .inl b => (.normal, stP q_keep_LinePlays_l5 142 8 p_keep_LinePlays_l5 s_keep_LinePlays_l5 b)
  | .inr (.inl b) => (.ret, stP q_keep_LinePlays_l5_e0 142 8 p_keep_LinePlays_l5_e0 s_keep_LinePlays_l5_e0 b)
  | .inr (.inr b) => (.exit 0, stP q_keep_LinePlays_l5_e1 142 8 p_keep_LinePlays_l5_e1 s_keep_LinePlays_l5_e1 b)
theorem lok_keep_LinePlays_l5 : PieceOk (Y_keep_LinePlays).env 0 (sub C_keep_LinePlays [0, 1, 0, 1, 1, 1, 1]) L_keep_LinePlays_l5 :=
  loop_ok (Y := Y_keep_LinePlays) (A := A_keep_LinePlays_l5) hY_keep_LinePlays Facts.mix (root := C_keep_LinePlays) (L := 0) ⟨lok_keep_LinePlays_l4, trivial⟩ (π := [0, 1, 0, 1, 1, 1, 1]) (c := loopB (sub C_keep_LinePlays [0, 1, 0, 1, 1, 1, 1])) (by kernel_rfl) q_keep_LinePlays_l5 142 8 p_keep_LinePlays_l5 s_keep_LinePlays_l5 E_keep_LinePlays_l5 (fun s => T_keep_LinePlays_l5 s.1 s.2.1 s.2.2.1 s.2.2.2) O_keep_LinePlays_l5 (by intro e d h b; unfold E_keep_LinePlays_l5 at h; split at h <;> first | (cases h; rfl) | cases h) (fun _ => rfl) (by intro r; cases r <;> exact (fun h => by cases h)) (fun o => LR.two o (fun r => (.ret, stP q_keep_LinePlays_l5_e0 142 8 p_keep_LinePlays_l5_e0 s_keep_LinePlays_l5_e0 r)) (fun r => (.exit 0, stP q_keep_LinePlays_l5_e1 142 8 p_keep_LinePlays_l5_e1 s_keep_LinePlays_l5_e1 r))) (by intro o Q h; exact Or.elim h (fun ⟨v, h1, h2⟩ => ⟨_, h1, h2⟩) (fun ⟨v, h1, h2⟩ => ⟨_, h1, h2⟩))
    (by rintro ⟨x0, x1, x2, x3⟩; kernel_rfl)
noncomputable def A_keep_LinePlays : Ann := ⟨[([0, 1, 0, 1, 1, 1, 1], L_keep_LinePlays_l5)], [], [], live_keep_LinePlays, [(16, [3])]⟩
noncomputable def T_keep_LinePlays (a0 : (List Carry)) : Tr (Bool) :=
  (.bind (sh_keep_lines) fun v1 =>
  (.ite (!v1)
    (.leaf false)
    (.two (sh_keep_LinePlays_l5 a0 0 (⟨[], [], 0, false⟩ : Line) []) (fun v17 =>
      (.leaf v17)) (fun v18 =>
      (.leaf true)))))
noncomputable def sh_keep_LinePlays (a0 : (List Carry)) : Option (Bool) := (T_keep_LinePlays a0).run
noncomputable def qa_keep_LinePlays : LQ ((List Carry)) := (Par.q carriesP)
noncomputable def qr_keep_LinePlays : LQ (Bool) := (Par.q boolP)
noncomputable def F_keep_LinePlays : SpecT := specF 0 qa_keep_LinePlays 1 [] (fun s => T_keep_LinePlays s) default qr_keep_LinePlays 1 []
theorem ok_keep_LinePlays : SpecOk Try.prog 15 (F_keep_LinePlays).spec :=
  specF_ok (Y := Y_keep_LinePlays) (A := A_keep_LinePlays) hY_keep_LinePlays Facts.mix Try.func15 (c := C_keep_LinePlays) (by kernel_rfl) (Lc := 0) ⟨lok_keep_LinePlays_l5, trivial⟩ qa_keep_LinePlays 1 8 [] (fun s => T_keep_LinePlays s) default qr_keep_LinePlays 1 [] [] (by decide) (by kernel_rfl) (by rfl) (by decide) (by decide) (by rfl)
    (by rintro a0; kernel_rfl)

end Go.Proofs.Ytfmcmcbckhmfaaa.Ab
