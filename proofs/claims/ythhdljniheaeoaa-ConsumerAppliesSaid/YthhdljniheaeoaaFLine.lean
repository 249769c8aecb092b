/-
  The functions, each by its tree.
-/
import Derived.Test.YthhdljniheaeoaaFacts
import Derived.Test.YthhdljniheaeoaaAbStructs
import Derived.Test.YthhdljniheaeoaaAbFun
namespace Go.Proofs.Ythhdljniheaeoaa.Ab
open Go Go.RowKit
set_option maxRecDepth 100000
set_option linter.unusedVariables false
set_option linter.unusedSimpArgs false

noncomputable def C_keep_pick : Code := Try.f29.body.getD .skip
noncomputable def live_keep_pick : List (List Nat) := [[0, 1], [0, 1], [0, 1, 9], [0], [4]]
noncomputable def Y_keep_pick : EnvT := ⟨Try.prog, lookT []⟩
theorem hY_keep_pick : (Y_keep_pick).Ok := lookT_ok trivial
noncomputable def A_keep_pick : Ann := ⟨[], [], [], live_keep_pick, []⟩
noncomputable def T_keep_pick (a0 : Int) (a1 : Int) : Tr (Int) :=
  (.guard (a1 ≠ 0)
  (.ite (decide ((Int.tmod a0 a1) < 0))
    (.leaf (IntKind.i64.wrap ((Int.tmod a0 a1) + a1)))
    (.leaf (Int.tmod a0 a1))))
noncomputable def sh_keep_pick (a0 : Int) (a1 : Int) : Option (Int) := (T_keep_pick a0 a1).run
noncomputable def qa_keep_pick : LQ (Int × Int) := (LQ.seq (Par.q intP) (Par.q intP))
noncomputable def qr_keep_pick : LQ (Int) := (Par.q intP)
noncomputable def F_keep_pick : SpecT := specF 0 qa_keep_pick 2 [] (fun s => T_keep_pick s.1 s.2) default qr_keep_pick 1 []
theorem ok_keep_pick : SpecOk Try.prog 29 (F_keep_pick).spec :=
  specF_ok (Y := Y_keep_pick) (A := A_keep_pick) hY_keep_pick Facts.mix Try.func29 (c := C_keep_pick) (by kernel_rfl) (Lc := 0) trivial qa_keep_pick 2 2 [] (fun s => T_keep_pick s.1 s.2) default qr_keep_pick 1 [] [] (by decide) (by kernel_rfl) (by rfl) (by decide) (by decide) (by rfl)
    (by rintro ⟨a0, a1⟩; kernel_rfl)

noncomputable def C_slices_Clone_string : Code := Try.f69.body.getD .skip
noncomputable def live_slices_Clone_string : List (List Nat) := [[0], [0, 4], [2], [2]]
noncomputable def Y_slices_Clone_string : EnvT := ⟨Try.prog, lookT []⟩
theorem hY_slices_Clone_string : (Y_slices_Clone_string).Ok := lookT_ok trivial
noncomputable def A_slices_Clone_string : Ann := ⟨[], [], [], live_slices_Clone_string, []⟩
noncomputable def T_slices_Clone_string (a0 : (List ByteArray)) : Tr ((List ByteArray)) :=
  (.split (Sl.len (.strs a0) = 0) (True)
    (.leaf [])
    (.guard ((Sl.len (.strs []) + Sl.len (.strs a0)) * 16 ≤ 140737488355328)
    (.leaf a0)))
noncomputable def sh_slices_Clone_string (a0 : (List ByteArray)) : Option ((List ByteArray)) := (T_slices_Clone_string a0).run
noncomputable def qa_slices_Clone_string : LQ ((List ByteArray)) := (Par.q strsP)
noncomputable def qr_slices_Clone_string : LQ ((List ByteArray)) := (LQ.skip (LQ.const (.own 0)) (Par.q strsP))
noncomputable def F_slices_Clone_string : SpecT := specF 0 qa_slices_Clone_string 1 [] (fun s => T_slices_Clone_string s) default qr_slices_Clone_string 1 [.rows 9]
theorem ok_slices_Clone_string : SpecOk Try.prog 69 (F_slices_Clone_string).spec :=
  specF_ok (Y := Y_slices_Clone_string) (A := A_slices_Clone_string) hY_slices_Clone_string Facts.mix Try.func69 (c := C_slices_Clone_string) (by kernel_rfl) (Lc := 0) trivial qa_slices_Clone_string 1 5 [] (fun s => T_slices_Clone_string s) default qr_slices_Clone_string 1 [.rows 9] [.nilown 2 9 (.strs [])] (by decide) (by kernel_rfl) (by rfl) (by decide) (by decide) (by rfl)
    (by rintro a0; kernel_rfl)

noncomputable def C_slices_Clone_int : Code := Try.f70.body.getD .skip
noncomputable def live_slices_Clone_int : List (List Nat) := [[0], [0, 4], [2], [2]]
noncomputable def Y_slices_Clone_int : EnvT := ⟨Try.prog, lookT []⟩
theorem hY_slices_Clone_int : (Y_slices_Clone_int).Ok := lookT_ok trivial
noncomputable def A_slices_Clone_int : Ann := ⟨[], [], [], live_slices_Clone_int, []⟩
noncomputable def T_slices_Clone_int (a0 : (List Int)) : Tr ((List Int)) :=
  (.split (Sl.len (.ints a0) = 0) (True)
    (.leaf [])
    (.guard ((Sl.len (.ints []) + Sl.len (.ints a0)) * 8 ≤ 140737488355328)
    (.leaf a0)))
noncomputable def sh_slices_Clone_int (a0 : (List Int)) : Option ((List Int)) := (T_slices_Clone_int a0).run
noncomputable def qa_slices_Clone_int : LQ ((List Int)) := (Par.q intsP)
noncomputable def qr_slices_Clone_int : LQ ((List Int)) := (LQ.skip (LQ.const (.own 0)) (Par.q intsP))
noncomputable def F_slices_Clone_int : SpecT := specF 0 qa_slices_Clone_int 1 [] (fun s => T_slices_Clone_int s) default qr_slices_Clone_int 1 [.rows 3]
theorem ok_slices_Clone_int : SpecOk Try.prog 70 (F_slices_Clone_int).spec :=
  specF_ok (Y := Y_slices_Clone_int) (A := A_slices_Clone_int) hY_slices_Clone_int Facts.mix Try.func70 (c := C_slices_Clone_int) (by kernel_rfl) (Lc := 0) trivial qa_slices_Clone_int 1 5 [] (fun s => T_slices_Clone_int s) default qr_slices_Clone_int 1 [.rows 3] [.nilown 2 3 (.ints [])] (by decide) (by kernel_rfl) (by rfl) (by decide) (by decide) (by rfl)
    (by rintro a0; kernel_rfl)

noncomputable def C_slices_Clone_api_Power : Code := Try.f38.body.getD .skip
noncomputable def live_slices_Clone_api_Power : List (List Nat) := [[0], [0, 4], [2], [2]]
noncomputable def Y_slices_Clone_api_Power : EnvT := ⟨Try.prog, lookT []⟩
theorem hY_slices_Clone_api_Power : (Y_slices_Clone_api_Power).Ok := lookT_ok trivial
noncomputable def A_slices_Clone_api_Power : Ann := ⟨[], [], [], live_slices_Clone_api_Power, []⟩
noncomputable def T_slices_Clone_api_Power (a0 : (List Power)) : Tr ((List Power)) :=
  (.split (Sl.len (.powers a0) = 0) (True)
    (.leaf [])
    (.guard ((Sl.len (.powers []) + Sl.len (.powers a0)) * 16 ≤ 140737488355328)
    (.leaf a0)))
noncomputable def sh_slices_Clone_api_Power (a0 : (List Power)) : Option ((List Power)) := (T_slices_Clone_api_Power a0).run
noncomputable def qa_slices_Clone_api_Power : LQ ((List Power)) := (Par.q powersP)
noncomputable def qr_slices_Clone_api_Power : LQ ((List Power)) := (LQ.skip (LQ.const (.own 0)) (Par.q powersP))
noncomputable def F_slices_Clone_api_Power : SpecT := specF 0 qa_slices_Clone_api_Power 1 [] (fun s => T_slices_Clone_api_Power s) default qr_slices_Clone_api_Power 1 [.rows 52]
theorem ok_slices_Clone_api_Power : SpecOk Try.prog 38 (F_slices_Clone_api_Power).spec :=
  specF_ok (Y := Y_slices_Clone_api_Power) (A := A_slices_Clone_api_Power) hY_slices_Clone_api_Power Facts.mix Try.func38 (c := C_slices_Clone_api_Power) (by kernel_rfl) (Lc := 0) trivial qa_slices_Clone_api_Power 1 5 [] (fun s => T_slices_Clone_api_Power s) default qr_slices_Clone_api_Power 1 [.rows 52] [.nilown 2 52 (.powers [])] (by decide) (by kernel_rfl) (by rfl) (by decide) (by decide) (by rfl)
    (by rintro a0; kernel_rfl)

noncomputable def C_slices_Clone_api_Packet : Code := Try.f48.body.getD .skip
noncomputable def live_slices_Clone_api_Packet : List (List Nat) := [[0], [0, 4], [2], [2]]
noncomputable def Y_slices_Clone_api_Packet : EnvT := ⟨Try.prog, lookT []⟩
theorem hY_slices_Clone_api_Packet : (Y_slices_Clone_api_Packet).Ok := lookT_ok trivial
noncomputable def A_slices_Clone_api_Packet : Ann := ⟨[], [], [], live_slices_Clone_api_Packet, []⟩
noncomputable def T_slices_Clone_api_Packet (a0 : (List Packet)) : Tr ((List Packet)) :=
  (.split (Sl.len (.packets a0) = 0) (True)
    (.leaf [])
    (.guard ((Sl.len (.packets []) + Sl.len (.packets a0)) * 80 ≤ 140737488355328)
    (.leaf a0)))
noncomputable def sh_slices_Clone_api_Packet (a0 : (List Packet)) : Option ((List Packet)) := (T_slices_Clone_api_Packet a0).run
noncomputable def qa_slices_Clone_api_Packet : LQ ((List Packet)) := (Par.q packetsP)
noncomputable def qr_slices_Clone_api_Packet : LQ ((List Packet)) := (LQ.skip (LQ.const (.own 0)) (Par.q packetsP))
noncomputable def F_slices_Clone_api_Packet : SpecT := specF 0 qa_slices_Clone_api_Packet 1 [] (fun s => T_slices_Clone_api_Packet s) default qr_slices_Clone_api_Packet 1 [.rows 56]
theorem ok_slices_Clone_api_Packet : SpecOk Try.prog 48 (F_slices_Clone_api_Packet).spec :=
  specF_ok (Y := Y_slices_Clone_api_Packet) (A := A_slices_Clone_api_Packet) hY_slices_Clone_api_Packet Facts.mix Try.func48 (c := C_slices_Clone_api_Packet) (by kernel_rfl) (Lc := 0) trivial qa_slices_Clone_api_Packet 1 5 [] (fun s => T_slices_Clone_api_Packet s) default qr_slices_Clone_api_Packet 1 [.rows 56] [.nilown 2 56 (.packets [])] (by decide) (by kernel_rfl) (by rfl) (by decide) (by decide) (by rfl)
    (by rintro a0; kernel_rfl)

noncomputable def C_slices_Clone_api_Ripe : Code := Try.f41.body.getD .skip
noncomputable def live_slices_Clone_api_Ripe : List (List Nat) := [[0], [0, 4], [2], [2]]
noncomputable def Y_slices_Clone_api_Ripe : EnvT := ⟨Try.prog, lookT []⟩
theorem hY_slices_Clone_api_Ripe : (Y_slices_Clone_api_Ripe).Ok := lookT_ok trivial
noncomputable def A_slices_Clone_api_Ripe : Ann := ⟨[], [], [], live_slices_Clone_api_Ripe, []⟩
noncomputable def T_slices_Clone_api_Ripe (a0 : (List Ripe)) : Tr ((List Ripe)) :=
  (.split (Sl.len (.ripes a0) = 0) (True)
    (.leaf [])
    (.guard ((Sl.len (.ripes []) + Sl.len (.ripes a0)) * 16 ≤ 140737488355328)
    (.leaf a0)))
noncomputable def sh_slices_Clone_api_Ripe (a0 : (List Ripe)) : Option ((List Ripe)) := (T_slices_Clone_api_Ripe a0).run
noncomputable def qa_slices_Clone_api_Ripe : LQ ((List Ripe)) := (Par.q ripesP)
noncomputable def qr_slices_Clone_api_Ripe : LQ ((List Ripe)) := (LQ.skip (LQ.const (.own 0)) (Par.q ripesP))
noncomputable def F_slices_Clone_api_Ripe : SpecT := specF 0 qa_slices_Clone_api_Ripe 1 [] (fun s => T_slices_Clone_api_Ripe s) default qr_slices_Clone_api_Ripe 1 [.rows 69]
theorem ok_slices_Clone_api_Ripe : SpecOk Try.prog 41 (F_slices_Clone_api_Ripe).spec :=
  specF_ok (Y := Y_slices_Clone_api_Ripe) (A := A_slices_Clone_api_Ripe) hY_slices_Clone_api_Ripe Facts.mix Try.func41 (c := C_slices_Clone_api_Ripe) (by kernel_rfl) (Lc := 0) trivial qa_slices_Clone_api_Ripe 1 5 [] (fun s => T_slices_Clone_api_Ripe s) default qr_slices_Clone_api_Ripe 1 [.rows 69] [.nilown 2 69 (.ripes [])] (by decide) (by kernel_rfl) (by rfl) (by decide) (by decide) (by rfl)
    (by rintro a0; kernel_rfl)

noncomputable def C_line_Good_1 : Code := Try.f66.body.getD .skip
noncomputable def live_line_Good_1 : List (List Nat) := [[0], [2]]
noncomputable def Y_line_Good_1 : EnvT := ⟨Try.prog, lookT []⟩
theorem hY_line_Good_1 : (Y_line_Good_1).Ok := lookT_ok trivial
noncomputable def A_line_Good_1 : Ann := ⟨[], [], [], live_line_Good_1, []⟩
noncomputable def T_line_Good_1 (a0 : Int) : Tr (Bool) :=
  (.leaf (decide (a0 < 0)))
noncomputable def sh_line_Good_1 (a0 : Int) : Option (Bool) := (T_line_Good_1 a0).run
noncomputable def qa_line_Good_1 : LQ (Int) := (Par.q intP)
noncomputable def qr_line_Good_1 : LQ (Bool) := (Par.q boolP)
noncomputable def F_line_Good_1 : SpecT := specF 0 qa_line_Good_1 1 [] (fun s => T_line_Good_1 s) default qr_line_Good_1 1 []
theorem ok_line_Good_1 : SpecOk Try.prog 66 (F_line_Good_1).spec :=
  specF_ok (Y := Y_line_Good_1) (A := A_line_Good_1) hY_line_Good_1 Facts.mix Try.func66 (c := C_line_Good_1) (by kernel_rfl) (Lc := 0) trivial qa_line_Good_1 1 2 [] (fun s => T_line_Good_1 s) default qr_line_Good_1 1 [] [] (by decide) (by kernel_rfl) (by rfl) (by decide) (by decide) (by rfl)
    (by rintro a0; kernel_rfl)

noncomputable def C_slices_IndexFunc_int : Code := Try.f72.body.getD .skip
noncomputable def live_slices_IndexFunc_int : List (List Nat) := [[0, 1], [0, 1, 7, 8], [0, 1, 7, 8, 9], [0, 1, 5, 7, 8], [0, 1, 5, 7, 8, 16], [4], [0, 1, 7, 8], [4]]
noncomputable def Y_slices_IndexFunc_int : EnvT := ⟨Try.prog, lookT [(66, F_line_Good_1)]⟩
theorem hY_slices_IndexFunc_int : (Y_slices_IndexFunc_int).Ok := lookT_ok ⟨ok_line_Good_1, trivial⟩
noncomputable def T_slices_IndexFunc_int_l1 (x0 : (List Int)) (x1 : Int) (x2 : Int) : Tr (((List Int) × Int × Int) ⊕ ((Int) ⊕ (Unit))) :=
  (.ite (decide (x2 < x1))
    (.guard ((0 : Int) ≤ x2 ∧ x2 < ((Sl.len (.ints x0) : Nat) : Int))
    (.bind (sh_line_Good_1 (x0.getD x2.toNat 0)) fun v1 =>
    (.ite (v1)
      (.leaf (.inr (.inl x2)))
      (.leaf (.inl (x0, x1, IntKind.i64.wrap (x2 + 1)))))))
    (.leaf (.inr (.inr ()))))
noncomputable def sh_slices_IndexFunc_int_l1 (x0 : (List Int)) (x1 : Int) (x2 : Int) : Option ((Int) ⊕ (Unit)) := iter (fun s : (List Int) × Int × Int => (T_slices_IndexFunc_int_l1 s.1 s.2.1 s.2.2).run) (x0, x1, x2)
noncomputable def A_slices_IndexFunc_int_l1 : Ann := ⟨[], [], [], live_slices_IndexFunc_int, []⟩
noncomputable def q_slices_IndexFunc_int_l1 : LQ ((List Int) × Int × Int) := (LQ.seq (Par.q intsP) (LQ.skip (LQ.const (.fn 66 [])) (LQ.seq (Par.q intP) (Par.q intP))))
noncomputable def p_slices_IndexFunc_int_l1 : Pat := ⟨[0, 1, 7, 8], [.pub 0, .nilsl 0 (.ints [])]⟩
noncomputable def s_slices_IndexFunc_int_l1 : List BS := []
noncomputable def q_slices_IndexFunc_int_l1_e0 : LQ (Int) := (Par.q intP)
noncomputable def p_slices_IndexFunc_int_l1_e0 : Pat := ⟨[4], []⟩
noncomputable def s_slices_IndexFunc_int_l1_e0 : List BS := []
noncomputable def q_slices_IndexFunc_int_l1_e1 : LQ (Unit) := LQ.nil
noncomputable def p_slices_IndexFunc_int_l1_e1 : Pat := ⟨[], []⟩
noncomputable def s_slices_IndexFunc_int_l1_e1 : List BS := []
noncomputable def L_slices_IndexFunc_int_l1 : St → Option LR := pieceL q_slices_IndexFunc_int_l1 19 0 p_slices_IndexFunc_int_l1 s_slices_IndexFunc_int_l1 (fun o => LR.two o (fun r => (.ret, stP q_slices_IndexFunc_int_l1_e0 19 2 p_slices_IndexFunc_int_l1_e0 s_slices_IndexFunc_int_l1_e0 r)) (fun r => (.exit 0, stP q_slices_IndexFunc_int_l1_e1 19 2 p_slices_IndexFunc_int_l1_e1 s_slices_IndexFunc_int_l1_e1 r))) (fun a => iter (fun s : (List Int) × Int × Int => (T_slices_IndexFunc_int_l1 s.1 s.2.1 s.2.2).run) a)
noncomputable def E_slices_IndexFunc_int_l1 : Exit → Option (End (((List Int) × Int × Int) ⊕ ((Int) ⊕ (Unit))))
  | .normal => some ⟨_, q_slices_IndexFunc_int_l1, p_slices_IndexFunc_int_l1, s_slices_IndexFunc_int_l1, fun b => .inl b⟩
  | .ret => some ⟨_, q_slices_IndexFunc_int_l1_e0, p_slices_IndexFunc_int_l1_e0, s_slices_IndexFunc_int_l1_e0, fun b => .inr (.inl b)⟩
  | .exit 0 => some ⟨_, q_slices_IndexFunc_int_l1_e1, p_slices_IndexFunc_int_l1_e1, s_slices_IndexFunc_int_l1_e1, fun b => .inr (.inr b)⟩
  | _ => none
noncomputable def O_slices_IndexFunc_int_l1 : (((List Int) × Int × Int) ⊕ ((Int) ⊕ (Unit))) → Exit × St
  | .inl b => (.normal, stP q_slices_IndexFunc_int_l1 19 2 p_slices_IndexFunc_int_l1 s_slices_IndexFunc_int_l1 b)
  | .inr (.inl b) => (.ret, stP q_slices_IndexFunc_int_l1_e0 19 2 p_slices_IndexFunc_int_l1_e0 s_slices_IndexFunc_int_l1_e0 b)
  | .inr (.inr b) => (.exit 0, stP q_slices_IndexFunc_int_l1_e1 19 2 p_slices_IndexFunc_int_l1_e1 s_slices_IndexFunc_int_l1_e1 b)
theorem lok_slices_IndexFunc_int_l1 : PieceOk (Y_slices_IndexFunc_int).env 0 (sub C_slices_IndexFunc_int [0, 1, 0, 1]) L_slices_IndexFunc_int_l1 :=
  loop_ok (Y := Y_slices_IndexFunc_int) (A := A_slices_IndexFunc_int_l1) hY_slices_IndexFunc_int Facts.mix (root := C_slices_IndexFunc_int) (L := 0) trivial (π := [0, 1, 0, 1]) (c := loopB (sub C_slices_IndexFunc_int [0, 1, 0, 1])) (by kernel_rfl) q_slices_IndexFunc_int_l1 19 2 p_slices_IndexFunc_int_l1 s_slices_IndexFunc_int_l1 E_slices_IndexFunc_int_l1 (fun s => T_slices_IndexFunc_int_l1 s.1 s.2.1 s.2.2) O_slices_IndexFunc_int_l1 (by intro e d h b; unfold E_slices_IndexFunc_int_l1 at h; split at h <;> first | (cases h; rfl) | cases h) (fun _ => rfl) (by intro r; cases r <;> exact (fun h => by cases h)) (fun o => LR.two o (fun r => (.ret, stP q_slices_IndexFunc_int_l1_e0 19 2 p_slices_IndexFunc_int_l1_e0 s_slices_IndexFunc_int_l1_e0 r)) (fun r => (.exit 0, stP q_slices_IndexFunc_int_l1_e1 19 2 p_slices_IndexFunc_int_l1_e1 s_slices_IndexFunc_int_l1_e1 r))) (by intro o Q h; exact Or.elim h (fun ⟨v, h1, h2⟩ => ⟨_, h1, h2⟩) (fun ⟨v, h1, h2⟩ => ⟨_, h1, h2⟩))
    (by rintro ⟨x0, x1, x2⟩; kernel_rfl)
noncomputable def A_slices_IndexFunc_int : Ann := ⟨[([0, 1, 0, 1], L_slices_IndexFunc_int_l1)], [], [], live_slices_IndexFunc_int, []⟩
noncomputable def T_slices_IndexFunc_int (a0 : (List Int)) : Tr (Int) :=
  (.two (sh_slices_IndexFunc_int_l1 a0 ((a0.length : Nat) : Int) 0) (fun v2 =>
    (.leaf v2)) (fun v3 =>
    (.leaf (-1))))
noncomputable def sh_slices_IndexFunc_int (a0 : (List Int)) : Option (Int) := (T_slices_IndexFunc_int a0).run
noncomputable def qa_slices_IndexFunc_int : LQ ((List Int)) := (LQ.skipR (Par.q intsP) (LQ.const (.fn 66 [])))
noncomputable def qr_slices_IndexFunc_int : LQ (Int) := (Par.q intP)
noncomputable def F_slices_IndexFunc_int : SpecT := specF 0 qa_slices_IndexFunc_int 2 [] (fun s => T_slices_IndexFunc_int s) default qr_slices_IndexFunc_int 1 []
theorem ok_slices_IndexFunc_int : SpecOk Try.prog 72 (F_slices_IndexFunc_int).spec :=
  specF_ok (Y := Y_slices_IndexFunc_int) (A := A_slices_IndexFunc_int) hY_slices_IndexFunc_int Facts.mix Try.func72 (c := C_slices_IndexFunc_int) (by kernel_rfl) (Lc := 0) ⟨lok_slices_IndexFunc_int_l1, trivial⟩ qa_slices_IndexFunc_int 2 2 [] (fun s => T_slices_IndexFunc_int s) default qr_slices_IndexFunc_int 1 [] [] (by decide) (by kernel_rfl) (by rfl) (by decide) (by decide) (by rfl)
    (by rintro a0; kernel_rfl)

noncomputable def C_slices_ContainsFunc_int : Code := Try.f65.body.getD .skip
noncomputable def live_slices_ContainsFunc_int : List (List Nat) := [[0, 1], [4]]
noncomputable def Y_slices_ContainsFunc_int : EnvT := ⟨Try.prog, lookT [(72, F_slices_IndexFunc_int)]⟩
theorem hY_slices_ContainsFunc_int : (Y_slices_ContainsFunc_int).Ok := lookT_ok ⟨ok_slices_IndexFunc_int, trivial⟩
noncomputable def A_slices_ContainsFunc_int : Ann := ⟨[], [], [], live_slices_ContainsFunc_int, []⟩
noncomputable def T_slices_ContainsFunc_int (a0 : (List Int)) : Tr (Bool) :=
  (.bind (sh_slices_IndexFunc_int a0) fun v1 =>
  (.leaf (decide (v1 ≥ 0))))
noncomputable def sh_slices_ContainsFunc_int (a0 : (List Int)) : Option (Bool) := (T_slices_ContainsFunc_int a0).run
noncomputable def qa_slices_ContainsFunc_int : LQ ((List Int)) := (LQ.skipR (Par.q intsP) (LQ.const (.fn 66 [])))
noncomputable def qr_slices_ContainsFunc_int : LQ (Bool) := (Par.q boolP)
noncomputable def F_slices_ContainsFunc_int : SpecT := specF 0 qa_slices_ContainsFunc_int 2 [] (fun s => T_slices_ContainsFunc_int s) default qr_slices_ContainsFunc_int 1 []
theorem ok_slices_ContainsFunc_int : SpecOk Try.prog 65 (F_slices_ContainsFunc_int).spec :=
  specF_ok (Y := Y_slices_ContainsFunc_int) (A := A_slices_ContainsFunc_int) hY_slices_ContainsFunc_int Facts.mix Try.func65 (c := C_slices_ContainsFunc_int) (by kernel_rfl) (Lc := 0) trivial qa_slices_ContainsFunc_int 2 2 [] (fun s => T_slices_ContainsFunc_int s) default qr_slices_ContainsFunc_int 1 [] [] (by decide) (by kernel_rfl) (by rfl) (by decide) (by decide) (by rfl)
    (by rintro a0; kernel_rfl)

noncomputable def C_line_Good : Code := Try.f50.body.getD .skip
noncomputable def live_line_Good : List (List Nat) := [[1], [1, 28], [2], [2]]
noncomputable def Y_line_Good : EnvT := ⟨Try.prog, lookT [(65, F_slices_ContainsFunc_int)]⟩
theorem hY_line_Good : (Y_line_Good).Ok := lookT_ok ⟨ok_slices_ContainsFunc_int, trivial⟩
noncomputable def A_line_Good : Ann := ⟨[], [], [], live_line_Good, []⟩
noncomputable def T_line_Good (a0 : Line) : Tr (Bool) :=
  (.ite ((((((a0.Said.length : Nat) : Int) != ((a0.Due.length : Nat) : Int)) || (decide (((a0.Said.length : Nat) : Int) > 400))) || (decide (a0.Got < 0))) || (decide (a0.Got > ((a0.Said.length : Nat) : Int))))
    (.leaf false)
    (.bind (sh_slices_ContainsFunc_int a0.Due) fun v1 =>
    (.leaf (!v1))))
noncomputable def sh_line_Good (a0 : Line) : Option (Bool) := (T_line_Good a0).run
noncomputable def qa_line_Good : LQ (Line) := (Par.q (Par.ofLP lineL))
noncomputable def qr_line_Good : LQ (Bool) := (Par.q boolP)
noncomputable def F_line_Good : SpecT := specF 0 qa_line_Good 1 [] (fun s => T_line_Good s) default qr_line_Good 1 []
theorem ok_line_Good : SpecOk Try.prog 50 (F_line_Good).spec :=
  specF_ok (Y := Y_line_Good) (A := A_line_Good) hY_line_Good Facts.mix Try.func50 (c := C_line_Good) (by kernel_rfl) (Lc := 0) trivial qa_line_Good 1 3 [] (fun s => T_line_Good s) default qr_line_Good 1 [] [] (by decide) (by kernel_rfl) (by rfl) (by decide) (by decide) (by rfl)
    (by rintro a0; kernel_rfl)

noncomputable def C_line_Say : Code := Try.f61.body.getD .skip
noncomputable def live_line_Say : List (List Nat) := [[1, 2, 3, 6], [1, 2, 3, 6, 8], [6, 7], [1, 2, 3, 6, 17], [6, 7], [1, 2, 3, 6, 21], [6, 7], [3, 6], [6, 7]]
noncomputable def Y_line_Say : EnvT := ⟨Try.prog, lookT [(50, F_line_Good), (69, F_slices_Clone_string), (70, F_slices_Clone_int)]⟩
theorem hY_line_Say : (Y_line_Say).Ok := lookT_ok ⟨ok_line_Good, ok_slices_Clone_string, ok_slices_Clone_int, trivial⟩
noncomputable def A_line_Say : Ann := ⟨[], [], [], live_line_Say, []⟩
noncomputable def T_line_Say (a0 : Line) (a1 : ByteArray) (a2 : Int) : Tr (Line × Int) :=
  (.bind (sh_line_Good a0) fun v1 =>
  (.ite ((!v1) || (decide (a2 < 0)))
    (.leaf (a0, 2))
    (.ite (a0.Closed)
      (.leaf (a0, 11))
      (.ite (decide (((a0.Said.length : Nat) : Int) ≥ 400))
        (.leaf (a0, 6))
        (.guard ((sh_slices_Clone_string a0.Said).isSome = true)
        (.guard ((Sl.len (.strs ((sh_slices_Clone_string a0.Said).getD default)) + Sl.len (.strs [a1])) * 16 ≤ 140737488355328)
        (.guard ((sh_slices_Clone_int a0.Due).isSome = true)
        (.guard ((Sl.len (.ints ((sh_slices_Clone_int a0.Due).getD default)) + Sl.len (.ints [a2])) * 8 ≤ 140737488355328)
        (.leaf ({ (a0 : Line) with Said := ((sh_slices_Clone_string a0.Said).getD default) ++ [a1], Due := ((sh_slices_Clone_int a0.Due).getD default) ++ [a2] }, 0))))))))))
noncomputable def sh_line_Say (a0 : Line) (a1 : ByteArray) (a2 : Int) : Option (Line × Int) := (T_line_Say a0 a1 a2).run
noncomputable def qa_line_Say : LQ (Line × ByteArray × Int) := (LQ.seq (Par.q (Par.ofLP lineL)) (LQ.seq (Par.q strP) (Par.q intP)))
noncomputable def qr_line_Say : LQ (Line × Int) := (LQ.seq (Par.q (Par.ofLP lineL)) (Par.q intP))
noncomputable def F_line_Say : SpecT := specF 0 qa_line_Say 3 [] (fun s => T_line_Say s.1 s.2.1 s.2.2) default qr_line_Say 2 []
theorem ok_line_Say : SpecOk Try.prog 61 (F_line_Say).spec :=
  specF_ok (Y := Y_line_Say) (A := A_line_Say) hY_line_Say Facts.mix Try.func61 (c := C_line_Say) (by kernel_rfl) (Lc := 0) trivial qa_line_Say 3 10 [] (fun s => T_line_Say s.1 s.2.1 s.2.2) default qr_line_Say 2 [] [.pubB 6] (by decide) (by kernel_rfl) (by rfl) (by decide) (by decide) (by rfl)
    (by rintro ⟨a0, a1, a2⟩; kernel_rfl)

noncomputable def C_ref_SameNumbers : Code := Try.f60.body.getD .skip
noncomputable def live_ref_SameNumbers : List (List Nat) := [[0, 1], [0, 1, 10], [4], [0, 1, 12, 13], [0, 1, 12, 13, 14], [0, 1, 5, 12, 13], [0, 1, 12, 13, 24], [4], [0, 1, 12, 13], [4]]
noncomputable def Y_ref_SameNumbers : EnvT := ⟨Try.prog, lookT []⟩
theorem hY_ref_SameNumbers : (Y_ref_SameNumbers).Ok := lookT_ok trivial
noncomputable def T_ref_SameNumbers_l1 (x0 : (List Int)) (x1 : (List Int)) (x2 : Int) (x3 : Int) : Tr (((List Int) × (List Int) × Int × Int) ⊕ ((Bool) ⊕ (Unit))) :=
  (.ite (decide (x3 < x2))
    (.guard ((0 : Int) ≤ x3 ∧ x3 < ((Sl.len (.ints x0) : Nat) : Int))
    (.guard ((0 : Int) ≤ x3 ∧ x3 < ((Sl.len (.ints x1) : Nat) : Int))
    (.ite ((x0.getD x3.toNat 0) != (x1.getD x3.toNat 0))
      (.leaf (.inr (.inl false)))
      (.leaf (.inl (x0, x1, x2, IntKind.i64.wrap (x3 + 1)))))))
    (.leaf (.inr (.inr ()))))
noncomputable def sh_ref_SameNumbers_l1 (x0 : (List Int)) (x1 : (List Int)) (x2 : Int) (x3 : Int) : Option ((Bool) ⊕ (Unit)) := iter (fun s : (List Int) × (List Int) × Int × Int => (T_ref_SameNumbers_l1 s.1 s.2.1 s.2.2.1 s.2.2.2).run) (x0, x1, x2, x3)
noncomputable def A_ref_SameNumbers_l1 : Ann := ⟨[], [], [], live_ref_SameNumbers, []⟩
noncomputable def q_ref_SameNumbers_l1 : LQ ((List Int) × (List Int) × Int × Int) := (LQ.seq (Par.q intsP) (LQ.seq (Par.q intsP) (LQ.seq (Par.q intP) (Par.q intP))))
noncomputable def p_ref_SameNumbers_l1 : Pat := ⟨[0, 1, 12, 13], [.pub 0, .nilsl 0 (.ints []), .pub 1, .nilsl 1 (.ints [])]⟩
noncomputable def s_ref_SameNumbers_l1 : List BS := []
noncomputable def q_ref_SameNumbers_l1_e0 : LQ (Bool) := (Par.q boolP)
noncomputable def p_ref_SameNumbers_l1_e0 : Pat := ⟨[4], []⟩
noncomputable def s_ref_SameNumbers_l1_e0 : List BS := []
noncomputable def q_ref_SameNumbers_l1_e1 : LQ (Unit) := LQ.nil
noncomputable def p_ref_SameNumbers_l1_e1 : Pat := ⟨[], []⟩
noncomputable def s_ref_SameNumbers_l1_e1 : List BS := []
noncomputable def L_ref_SameNumbers_l1 : St → Option LR := pieceL q_ref_SameNumbers_l1 26 0 p_ref_SameNumbers_l1 s_ref_SameNumbers_l1 (fun o => LR.two o (fun r => (.ret, stP q_ref_SameNumbers_l1_e0 26 2 p_ref_SameNumbers_l1_e0 s_ref_SameNumbers_l1_e0 r)) (fun r => (.exit 0, stP q_ref_SameNumbers_l1_e1 26 2 p_ref_SameNumbers_l1_e1 s_ref_SameNumbers_l1_e1 r))) (fun a => iter (fun s : (List Int) × (List Int) × Int × Int => (T_ref_SameNumbers_l1 s.1 s.2.1 s.2.2.1 s.2.2.2).run) a)
noncomputable def E_ref_SameNumbers_l1 : Exit → Option (End (((List Int) × (List Int) × Int × Int) ⊕ ((Bool) ⊕ (Unit))))
  | .normal => some ⟨_, q_ref_SameNumbers_l1, p_ref_SameNumbers_l1, s_ref_SameNumbers_l1, fun b => .inl b⟩
  | .ret => some ⟨_, q_ref_SameNumbers_l1_e0, p_ref_SameNumbers_l1_e0, s_ref_SameNumbers_l1_e0, fun b => .inr (.inl b)⟩
  | .exit 0 => some ⟨_, q_ref_SameNumbers_l1_e1, p_ref_SameNumbers_l1_e1, s_ref_SameNumbers_l1_e1, fun b => .inr (.inr b)⟩
  | _ => none
noncomputable def O_ref_SameNumbers_l1 : (((List Int) × (List Int) × Int × Int) ⊕ ((Bool) ⊕ (Unit))) → Exit × St
  | .inl b => (.normal, stP q_ref_SameNumbers_l1 26 2 p_ref_SameNumbers_l1 s_ref_SameNumbers_l1 b)
  | .inr (.inl b) => (.ret, stP q_ref_SameNumbers_l1_e0 26 2 p_ref_SameNumbers_l1_e0 s_ref_SameNumbers_l1_e0 b)
  | .inr (.inr b) => (.exit 0, stP q_ref_SameNumbers_l1_e1 26 2 p_ref_SameNumbers_l1_e1 s_ref_SameNumbers_l1_e1 b)
theorem lok_ref_SameNumbers_l1 : PieceOk (Y_ref_SameNumbers).env 0 (sub C_ref_SameNumbers [0, 1, 0, 1, 1]) L_ref_SameNumbers_l1 :=
  loop_ok (Y := Y_ref_SameNumbers) (A := A_ref_SameNumbers_l1) hY_ref_SameNumbers Facts.mix (root := C_ref_SameNumbers) (L := 0) trivial (π := [0, 1, 0, 1, 1]) (c := loopB (sub C_ref_SameNumbers [0, 1, 0, 1, 1])) (by kernel_rfl) q_ref_SameNumbers_l1 26 2 p_ref_SameNumbers_l1 s_ref_SameNumbers_l1 E_ref_SameNumbers_l1 (fun s => T_ref_SameNumbers_l1 s.1 s.2.1 s.2.2.1 s.2.2.2) O_ref_SameNumbers_l1 (by intro e d h b; unfold E_ref_SameNumbers_l1 at h; split at h <;> first | (cases h; rfl) | cases h) (fun _ => rfl) (by intro r; cases r <;> exact (fun h => by cases h)) (fun o => LR.two o (fun r => (.ret, stP q_ref_SameNumbers_l1_e0 26 2 p_ref_SameNumbers_l1_e0 s_ref_SameNumbers_l1_e0 r)) (fun r => (.exit 0, stP q_ref_SameNumbers_l1_e1 26 2 p_ref_SameNumbers_l1_e1 s_ref_SameNumbers_l1_e1 r))) (by intro o Q h; exact Or.elim h (fun ⟨v, h1, h2⟩ => ⟨_, h1, h2⟩) (fun ⟨v, h1, h2⟩ => ⟨_, h1, h2⟩))
    (by rintro ⟨x0, x1, x2, x3⟩; kernel_rfl)
noncomputable def A_ref_SameNumbers : Ann := ⟨[([0, 1, 0, 1, 1], L_ref_SameNumbers_l1)], [], [], live_ref_SameNumbers, []⟩
noncomputable def T_ref_SameNumbers (a0 : (List Int)) (a1 : (List Int)) : Tr (Bool) :=
  (.ite (((a0.length : Nat) : Int) != ((a1.length : Nat) : Int))
    (.leaf false)
    (.two (sh_ref_SameNumbers_l1 a0 a1 ((a0.length : Nat) : Int) 0) (fun v1 =>
      (.leaf v1)) (fun v2 =>
      (.leaf true))))
noncomputable def sh_ref_SameNumbers (a0 : (List Int)) (a1 : (List Int)) : Option (Bool) := (T_ref_SameNumbers a0 a1).run
noncomputable def qa_ref_SameNumbers : LQ ((List Int) × (List Int)) := (LQ.seq (Par.q intsP) (Par.q intsP))
noncomputable def qr_ref_SameNumbers : LQ (Bool) := (Par.q boolP)
noncomputable def F_ref_SameNumbers : SpecT := specF 0 qa_ref_SameNumbers 2 [] (fun s => T_ref_SameNumbers s.1 s.2) default qr_ref_SameNumbers 1 []
theorem ok_ref_SameNumbers : SpecOk Try.prog 60 (F_ref_SameNumbers).spec :=
  specF_ok (Y := Y_ref_SameNumbers) (A := A_ref_SameNumbers) hY_ref_SameNumbers Facts.mix Try.func60 (c := C_ref_SameNumbers) (by kernel_rfl) (Lc := 0) ⟨lok_ref_SameNumbers_l1, trivial⟩ qa_ref_SameNumbers 2 2 [] (fun s => T_ref_SameNumbers s.1 s.2) default qr_ref_SameNumbers 1 [] [] (by decide) (by kernel_rfl) (by rfl) (by decide) (by decide) (by rfl)
    (by rintro ⟨a0, a1⟩; kernel_rfl)

noncomputable def C_ref_CopyLine : Code := Try.f39.body.getD .skip
noncomputable def live_ref_CopyLine : List (List Nat) := [[1, 2], [1, 2], [2]]
noncomputable def Y_ref_CopyLine : EnvT := ⟨Try.prog, lookT []⟩
theorem hY_ref_CopyLine : (Y_ref_CopyLine).Ok := lookT_ok trivial
noncomputable def A_ref_CopyLine : Ann := ⟨[], [], [], live_ref_CopyLine, []⟩
noncomputable def T_ref_CopyLine (a0 : Line) : Tr (Line) :=
  (.guard ((0 + Sl.len (.strs a0.Said)) * 16 ≤ 140737488355328)
  (.guard ((0 + Sl.len (.ints a0.Due)) * 8 ≤ 140737488355328)
  (.leaf a0)))
noncomputable def sh_ref_CopyLine (a0 : Line) : Option (Line) := (T_ref_CopyLine a0).run
noncomputable def qa_ref_CopyLine : LQ (Line) := (Par.q (Par.ofLP lineL))
noncomputable def qr_ref_CopyLine : LQ (Line) := (LQ.map (LQ.seq (LQ.agg (LQ.skip (LQ.const (.own 0)) (LQ.skip (LQ.const (.own 1)) (LQ.seq (Par.q intP) (Par.q boolP))))) (LQ.seq (Par.q strsP) (Par.q intsP))) (fun x : (Int × Bool) × (List ByteArray) × (List Int) => ((⟨x.2.1, x.2.2, x.1.1, x.1.2⟩ : Line) : Line)) (fun y => ((y.Got, y.Closed), y.Said, y.Due)) (fun _ => rfl))
noncomputable def F_ref_CopyLine : SpecT := specF 0 qa_ref_CopyLine 1 [] (fun s => T_ref_CopyLine s) default qr_ref_CopyLine 1 [.rows 9, .rows 3]
theorem ok_ref_CopyLine : SpecOk Try.prog 39 (F_ref_CopyLine).spec :=
  specF_ok (Y := Y_ref_CopyLine) (A := A_ref_CopyLine) hY_ref_CopyLine Facts.mix Try.func39 (c := C_ref_CopyLine) (by kernel_rfl) (Lc := 0) trivial qa_ref_CopyLine 1 6 [] (fun s => T_ref_CopyLine s) default qr_ref_CopyLine 1 [.rows 9, .rows 3] [] (by decide) (by kernel_rfl) (by rfl) (by decide) (by decide) (by rfl)
    (by rintro a0; kernel_rfl)

noncomputable def C_ref_SameLine : Code := Try.f36.body.getD .skip
noncomputable def live_ref_SameLine : List (List Nat) := [[2, 3], [2, 3, 26], [4], [2, 3, 29, 30], [2, 3, 29, 30, 31], [2, 3, 5, 29, 30], [2, 3, 29, 30, 43], [4], [2, 3, 29, 30], [4]]
noncomputable def Y_ref_SameLine : EnvT := ⟨Try.prog, lookT [(60, F_ref_SameNumbers)]⟩
theorem hY_ref_SameLine : (Y_ref_SameLine).Ok := lookT_ok ⟨ok_ref_SameNumbers, trivial⟩
noncomputable def T_ref_SameLine_l1 (x0 : Int) (x1 : Int) (x2 : Line) (x3 : Line) : Tr ((Int × Int × Line × Line) ⊕ ((Bool) ⊕ (Line × Line))) :=
  (.ite (decide (x1 < x0))
    (.guard ((0 : Int) ≤ x1 ∧ x1 < ((Sl.len (.strs x2.Said) : Nat) : Int))
    (.guard ((0 : Int) ≤ x1 ∧ x1 < ((Sl.len (.strs x3.Said) : Nat) : Int))
    (.ite (!((x2.Said.getD x1.toNat .empty).toList == (x3.Said.getD x1.toNat .empty).toList))
      (.leaf (.inr (.inl false)))
      (.leaf (.inl (x0, IntKind.i64.wrap (x1 + 1), x2, x3))))))
    (.leaf (.inr (.inr (x2, x3)))))
noncomputable def sh_ref_SameLine_l1 (x0 : Int) (x1 : Int) (x2 : Line) (x3 : Line) : Option ((Bool) ⊕ (Line × Line)) := iter (fun s : Int × Int × Line × Line => (T_ref_SameLine_l1 s.1 s.2.1 s.2.2.1 s.2.2.2).run) (x0, x1, x2, x3)
noncomputable def A_ref_SameLine_l1 : Ann := ⟨[], [], [], live_ref_SameLine, []⟩
noncomputable def q_ref_SameLine_l1 : LQ (Int × Int × Line × Line) := (LQ.skip (LQ.const (.ptr 0 0)) (LQ.skip (LQ.const (.ptr 1 0)) (LQ.seq (Par.q intP) (LQ.seq (Par.q intP) (LQ.seq (LP.q lineL) (LP.q lineL))))))
noncomputable def p_ref_SameLine_l1 : Pat := ⟨[2, 3, 29, 30], []⟩
noncomputable def s_ref_SameLine_l1 : List BS := [.cells 30 4, .cells 30 4]
noncomputable def q_ref_SameLine_l1_e0 : LQ (Bool) := (Par.q boolP)
noncomputable def p_ref_SameLine_l1_e0 : Pat := ⟨[4], []⟩
noncomputable def s_ref_SameLine_l1_e0 : List BS := []
noncomputable def q_ref_SameLine_l1_e1 : LQ (Line × Line) := (LQ.skip (LQ.const (.ptr 0 0)) (LQ.skip (LQ.const (.ptr 1 0)) (LQ.seq (LP.q lineL) (LP.q lineL))))
noncomputable def p_ref_SameLine_l1_e1 : Pat := ⟨[2, 3], []⟩
noncomputable def s_ref_SameLine_l1_e1 : List BS := [.cells 30 4, .cells 30 4]
noncomputable def L_ref_SameLine_l1 : St → Option LR := pieceL q_ref_SameLine_l1 50 0 p_ref_SameLine_l1 s_ref_SameLine_l1 (fun o => LR.two o (fun r => (.ret, stP q_ref_SameLine_l1_e0 50 4 p_ref_SameLine_l1_e0 s_ref_SameLine_l1_e0 r)) (fun r => (.exit 0, stP q_ref_SameLine_l1_e1 50 4 p_ref_SameLine_l1_e1 s_ref_SameLine_l1_e1 r))) (fun a => iter (fun s : Int × Int × Line × Line => (T_ref_SameLine_l1 s.1 s.2.1 s.2.2.1 s.2.2.2).run) a)
noncomputable def E_ref_SameLine_l1 : Exit → Option (End ((Int × Int × Line × Line) ⊕ ((Bool) ⊕ (Line × Line))))
  | .normal => some ⟨_, q_ref_SameLine_l1, p_ref_SameLine_l1, s_ref_SameLine_l1, fun b => .inl b⟩
  | .ret => some ⟨_, q_ref_SameLine_l1_e0, p_ref_SameLine_l1_e0, s_ref_SameLine_l1_e0, fun b => .inr (.inl b)⟩
  | .exit 0 => some ⟨_, q_ref_SameLine_l1_e1, p_ref_SameLine_l1_e1, s_ref_SameLine_l1_e1, fun b => .inr (.inr b)⟩
  | _ => none
noncomputable def O_ref_SameLine_l1 : ((Int × Int × Line × Line) ⊕ ((Bool) ⊕ (Line × Line))) → Exit × St
  | .inl b => (.normal, stP q_ref_SameLine_l1 50 4 p_ref_SameLine_l1 s_ref_SameLine_l1 b)
  | .inr (.inl b) => (.ret, stP q_ref_SameLine_l1_e0 50 4 p_ref_SameLine_l1_e0 s_ref_SameLine_l1_e0 b)
  | .inr (.inr b) => (.exit 0, stP q_ref_SameLine_l1_e1 50 4 p_ref_SameLine_l1_e1 s_ref_SameLine_l1_e1 b)
theorem lok_ref_SameLine_l1 : PieceOk (Y_ref_SameLine).env 0 (sub C_ref_SameLine [0, 1, 0, 1, 1]) L_ref_SameLine_l1 :=
  loop_ok (Y := Y_ref_SameLine) (A := A_ref_SameLine_l1) hY_ref_SameLine Facts.mix (root := C_ref_SameLine) (L := 0) trivial (π := [0, 1, 0, 1, 1]) (c := loopB (sub C_ref_SameLine [0, 1, 0, 1, 1])) (by kernel_rfl) q_ref_SameLine_l1 50 4 p_ref_SameLine_l1 s_ref_SameLine_l1 E_ref_SameLine_l1 (fun s => T_ref_SameLine_l1 s.1 s.2.1 s.2.2.1 s.2.2.2) O_ref_SameLine_l1 (by intro e d h b; unfold E_ref_SameLine_l1 at h; split at h <;> first | (cases h; rfl) | cases h) (fun _ => rfl) (by intro r; cases r <;> exact (fun h => by cases h)) (fun o => LR.two o (fun r => (.ret, stP q_ref_SameLine_l1_e0 50 4 p_ref_SameLine_l1_e0 s_ref_SameLine_l1_e0 r)) (fun r => (.exit 0, stP q_ref_SameLine_l1_e1 50 4 p_ref_SameLine_l1_e1 s_ref_SameLine_l1_e1 r))) (by intro o Q h; exact Or.elim h (fun ⟨v, h1, h2⟩ => ⟨_, h1, h2⟩) (fun ⟨v, h1, h2⟩ => ⟨_, h1, h2⟩))
    (by rintro ⟨x0, x1, x2, x3⟩; kernel_rfl)
noncomputable def A_ref_SameLine : Ann := ⟨[([0, 1, 0, 1, 1], L_ref_SameLine_l1)], [], [], live_ref_SameLine, []⟩
noncomputable def T_ref_SameLine (a0 : Line) (a1 : Line) : Tr (Bool) :=
  (.ite (((((a0.Said.length : Nat) : Int) != ((a1.Said.length : Nat) : Int)) || (a0.Got != a1.Got)) || (!(a0.Closed == a1.Closed)))
    (.leaf false)
    (.two (sh_ref_SameLine_l1 ((a0.Said.length : Nat) : Int) 0 a0 a1) (fun v1 =>
      (.leaf v1)) (fun v2 =>
      (.bind (sh_ref_SameNumbers v2.1.Due v2.2.Due) fun v3 =>
      (.leaf v3)))))
noncomputable def sh_ref_SameLine (a0 : Line) (a1 : Line) : Option (Bool) := (T_ref_SameLine a0 a1).run
noncomputable def qa_ref_SameLine : LQ (Line × Line) := (LQ.seq (Par.q (Par.ofLP lineL)) (Par.q (Par.ofLP lineL)))
noncomputable def qr_ref_SameLine : LQ (Bool) := (Par.q boolP)
noncomputable def F_ref_SameLine : SpecT := specF 0 qa_ref_SameLine 2 [] (fun s => T_ref_SameLine s.1 s.2) default qr_ref_SameLine 1 []
theorem ok_ref_SameLine : SpecOk Try.prog 36 (F_ref_SameLine).spec :=
  specF_ok (Y := Y_ref_SameLine) (A := A_ref_SameLine) hY_ref_SameLine Facts.mix Try.func36 (c := C_ref_SameLine) (by kernel_rfl) (Lc := 0) ⟨lok_ref_SameLine_l1, trivial⟩ qa_ref_SameLine 2 4 [] (fun s => T_ref_SameLine s.1 s.2) default qr_ref_SameLine 1 [] [] (by decide) (by kernel_rfl) (by rfl) (by decide) (by decide) (by rfl)
    (by rintro ⟨a0, a1⟩; kernel_rfl)

noncomputable def C_ref_GoodLine : Code := Try.f55.body.getD .skip
noncomputable def live_ref_GoodLine : List (List Nat) := [[1], [1, 6, 7, 8], [1, 6, 7, 8, 9], [1, 4, 6, 7, 8], [1, 6, 7, 8, 13], [2], [1, 6, 7, 8], [2]]
noncomputable def Y_ref_GoodLine : EnvT := ⟨Try.prog, lookT []⟩
theorem hY_ref_GoodLine : (Y_ref_GoodLine).Ok := lookT_ok trivial
noncomputable def T_ref_GoodLine_l1 (x0 : (List Int)) (x1 : Int) (x2 : Int) (x3 : Line) : Tr (((List Int) × Int × Int × Line) ⊕ ((Bool) ⊕ (Line))) :=
  (.ite (decide (x2 < x1))
    (.guard ((0 : Int) ≤ x2 ∧ x2 < ((Sl.len (.ints x0) : Nat) : Int))
    (.ite (decide ((x0.getD x2.toNat 0) < 0))
      (.leaf (.inr (.inl false)))
      (.leaf (.inl (x0, x1, IntKind.i64.wrap (x2 + 1), x3)))))
    (.leaf (.inr (.inr x3))))
noncomputable def sh_ref_GoodLine_l1 (x0 : (List Int)) (x1 : Int) (x2 : Int) (x3 : Line) : Option ((Bool) ⊕ (Line)) := iter (fun s : (List Int) × Int × Int × Line => (T_ref_GoodLine_l1 s.1 s.2.1 s.2.2.1 s.2.2.2).run) (x0, x1, x2, x3)
noncomputable def A_ref_GoodLine_l1 : Ann := ⟨[], [], [], live_ref_GoodLine, []⟩
noncomputable def q_ref_GoodLine_l1 : LQ ((List Int) × Int × Int × Line) := (LQ.skip (LQ.const (.ptr 0 0)) (LQ.seq (Par.q intsP) (LQ.seq (Par.q intP) (LQ.seq (Par.q intP) (LP.q lineL)))))
noncomputable def p_ref_GoodLine_l1 : Pat := ⟨[1, 6, 7, 8], [.pub 6, .nilsl 6 (.ints [])]⟩
noncomputable def s_ref_GoodLine_l1 : List BS := [.cells 30 4]
noncomputable def q_ref_GoodLine_l1_e0 : LQ (Bool) := (Par.q boolP)
noncomputable def p_ref_GoodLine_l1_e0 : Pat := ⟨[2], []⟩
noncomputable def s_ref_GoodLine_l1_e0 : List BS := []
noncomputable def q_ref_GoodLine_l1_e1 : LQ (Line) := (LQ.skip (LQ.const (.ptr 0 0)) (LP.q lineL))
noncomputable def p_ref_GoodLine_l1_e1 : Pat := ⟨[1], []⟩
noncomputable def s_ref_GoodLine_l1_e1 : List BS := [.cells 30 4]
noncomputable def L_ref_GoodLine_l1 : St → Option LR := pieceL q_ref_GoodLine_l1 41 0 p_ref_GoodLine_l1 s_ref_GoodLine_l1 (fun o => LR.two o (fun r => (.ret, stP q_ref_GoodLine_l1_e0 41 3 p_ref_GoodLine_l1_e0 s_ref_GoodLine_l1_e0 r)) (fun r => (.exit 0, stP q_ref_GoodLine_l1_e1 41 3 p_ref_GoodLine_l1_e1 s_ref_GoodLine_l1_e1 r))) (fun a => iter (fun s : (List Int) × Int × Int × Line => (T_ref_GoodLine_l1 s.1 s.2.1 s.2.2.1 s.2.2.2).run) a)
noncomputable def E_ref_GoodLine_l1 : Exit → Option (End (((List Int) × Int × Int × Line) ⊕ ((Bool) ⊕ (Line))))
  | .normal => some ⟨_, q_ref_GoodLine_l1, p_ref_GoodLine_l1, s_ref_GoodLine_l1, fun b => .inl b⟩
  | .ret => some ⟨_, q_ref_GoodLine_l1_e0, p_ref_GoodLine_l1_e0, s_ref_GoodLine_l1_e0, fun b => .inr (.inl b)⟩
  | .exit 0 => some ⟨_, q_ref_GoodLine_l1_e1, p_ref_GoodLine_l1_e1, s_ref_GoodLine_l1_e1, fun b => .inr (.inr b)⟩
  | _ => none
noncomputable def O_ref_GoodLine_l1 : (((List Int) × Int × Int × Line) ⊕ ((Bool) ⊕ (Line))) → Exit × St
  | .inl b => (.normal, stP q_ref_GoodLine_l1 41 3 p_ref_GoodLine_l1 s_ref_GoodLine_l1 b)
  | .inr (.inl b) => (.ret, stP q_ref_GoodLine_l1_e0 41 3 p_ref_GoodLine_l1_e0 s_ref_GoodLine_l1_e0 b)
  | .inr (.inr b) => (.exit 0, stP q_ref_GoodLine_l1_e1 41 3 p_ref_GoodLine_l1_e1 s_ref_GoodLine_l1_e1 b)
theorem lok_ref_GoodLine_l1 : PieceOk (Y_ref_GoodLine).env 0 (sub C_ref_GoodLine [0, 1, 0, 1]) L_ref_GoodLine_l1 :=
  loop_ok (Y := Y_ref_GoodLine) (A := A_ref_GoodLine_l1) hY_ref_GoodLine Facts.mix (root := C_ref_GoodLine) (L := 0) trivial (π := [0, 1, 0, 1]) (c := loopB (sub C_ref_GoodLine [0, 1, 0, 1])) (by kernel_rfl) q_ref_GoodLine_l1 41 3 p_ref_GoodLine_l1 s_ref_GoodLine_l1 E_ref_GoodLine_l1 (fun s => T_ref_GoodLine_l1 s.1 s.2.1 s.2.2.1 s.2.2.2) O_ref_GoodLine_l1 (by intro e d h b; unfold E_ref_GoodLine_l1 at h; split at h <;> first | (cases h; rfl) | cases h) (fun _ => rfl) (by intro r; cases r <;> exact (fun h => by cases h)) (fun o => LR.two o (fun r => (.ret, stP q_ref_GoodLine_l1_e0 41 3 p_ref_GoodLine_l1_e0 s_ref_GoodLine_l1_e0 r)) (fun r => (.exit 0, stP q_ref_GoodLine_l1_e1 41 3 p_ref_GoodLine_l1_e1 s_ref_GoodLine_l1_e1 r))) (by intro o Q h; exact Or.elim h (fun ⟨v, h1, h2⟩ => ⟨_, h1, h2⟩) (fun ⟨v, h1, h2⟩ => ⟨_, h1, h2⟩))
    (by rintro ⟨x0, x1, x2, x3⟩; kernel_rfl)
noncomputable def A_ref_GoodLine : Ann := ⟨[([0, 1, 0, 1], L_ref_GoodLine_l1)], [], [], live_ref_GoodLine, []⟩
noncomputable def T_ref_GoodLine (a0 : Line) : Tr (Bool) :=
  (.two (sh_ref_GoodLine_l1 a0.Due ((a0.Due.length : Nat) : Int) 0 a0) (fun v1 =>
    (.leaf v1)) (fun v2 =>
    (.leaf ((((((v2.Said.length : Nat) : Int) == ((v2.Due.length : Nat) : Int)) && (decide (((v2.Said.length : Nat) : Int) ≤ 400))) && (decide (v2.Got ≥ 0))) && (decide (v2.Got ≤ ((v2.Said.length : Nat) : Int)))))))
noncomputable def sh_ref_GoodLine (a0 : Line) : Option (Bool) := (T_ref_GoodLine a0).run
noncomputable def qa_ref_GoodLine : LQ (Line) := (Par.q (Par.ofLP lineL))
noncomputable def qr_ref_GoodLine : LQ (Bool) := (Par.q boolP)
noncomputable def F_ref_GoodLine : SpecT := specF 0 qa_ref_GoodLine 1 [] (fun s => T_ref_GoodLine s) default qr_ref_GoodLine 1 []
theorem ok_ref_GoodLine : SpecOk Try.prog 55 (F_ref_GoodLine).spec :=
  specF_ok (Y := Y_ref_GoodLine) (A := A_ref_GoodLine) hY_ref_GoodLine Facts.mix Try.func55 (c := C_ref_GoodLine) (by kernel_rfl) (Lc := 0) ⟨lok_ref_GoodLine_l1, trivial⟩ qa_ref_GoodLine 1 3 [] (fun s => T_ref_GoodLine s) default qr_ref_GoodLine 1 [] [] (by decide) (by kernel_rfl) (by rfl) (by decide) (by decide) (by rfl)
    (by rintro a0; kernel_rfl)

noncomputable def C_ref_Say : Code := Try.f63.body.getD .skip
noncomputable def live_ref_Say : List (List Nat) := [[1, 2, 3, 6], [1, 2, 3, 6, 15], [6, 7], [1, 2, 3, 6, 18], [6, 7], [1, 2, 3, 6, 23], [6, 7], [1, 2, 6, 8], [6, 8], [6, 7]]
noncomputable def Y_ref_Say : EnvT := ⟨Try.prog, lookT [(55, F_ref_GoodLine), (39, F_ref_CopyLine)]⟩
theorem hY_ref_Say : (Y_ref_Say).Ok := lookT_ok ⟨ok_ref_GoodLine, ok_ref_CopyLine, trivial⟩
noncomputable def A_ref_Say : Ann := ⟨[], [], [], live_ref_Say, []⟩
noncomputable def T_ref_Say (a0 : Line) (a1 : ByteArray) (a2 : Int) : Tr (Line × Int) :=
  (.bind (sh_ref_GoodLine a0) fun v1 =>
  (.ite ((!v1) || (decide (a2 < 0)))
    (.leaf (a0, 2))
    (.ite (a0.Closed)
      (.leaf (a0, 11))
      (.ite (((a0.Said.length : Nat) : Int) == 400)
        (.leaf (a0, 6))
        (.bind (sh_ref_CopyLine a0) fun v2 =>
        (.guard ((Sl.len (.strs v2.Said) + Sl.len (.strs [a1])) * 16 ≤ 140737488355328)
        (.guard ((Sl.len (.ints v2.Due) + Sl.len (.ints [a2])) * 8 ≤ 140737488355328)
        (.leaf ({ (v2 : Line) with Said := v2.Said ++ [a1], Due := v2.Due ++ [a2] }, 0)))))))))
noncomputable def sh_ref_Say (a0 : Line) (a1 : ByteArray) (a2 : Int) : Option (Line × Int) := (T_ref_Say a0 a1 a2).run
noncomputable def qa_ref_Say : LQ (Line × ByteArray × Int) := (LQ.seq (Par.q (Par.ofLP lineL)) (LQ.seq (Par.q strP) (Par.q intP)))
noncomputable def qr_ref_Say : LQ (Line × Int) := (LQ.seq (Par.q (Par.ofLP lineL)) (Par.q intP))
noncomputable def F_ref_Say : SpecT := specF 0 qa_ref_Say 3 [] (fun s => T_ref_Say s.1 s.2.1 s.2.2) default qr_ref_Say 2 []
theorem ok_ref_Say : SpecOk Try.prog 63 (F_ref_Say).spec :=
  specF_ok (Y := Y_ref_Say) (A := A_ref_Say) hY_ref_Say Facts.mix Try.func63 (c := C_ref_Say) (by kernel_rfl) (Lc := 0) trivial qa_ref_Say 3 11 [] (fun s => T_ref_Say s.1 s.2.1 s.2.2) default qr_ref_Say 2 [] [.pubB 6] (by decide) (by kernel_rfl) (by rfl) (by decide) (by decide) (by rfl)
    (by rintro ⟨a0, a1, a2⟩; kernel_rfl)

end Go.Proofs.Ythhdljniheaeoaa.Ab
