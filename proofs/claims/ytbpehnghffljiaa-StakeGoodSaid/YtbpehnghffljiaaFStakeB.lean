/-
  The functions, each by its tree.
-/
import Derived.Test.YtbpehnghffljiaaFacts
import Derived.Test.YtbpehnghffljiaaAbStructs
import Derived.Test.YtbpehnghffljiaaAbFun
import Derived.Test.YtbpehnghffljiaaFRatio
import Derived.Test.YtbpehnghffljiaaFBank
import Derived.Test.YtbpehnghffljiaaAbSort2
namespace Go.Proofs.Ytbpehnghffljiaa.Ab
open Go Go.RowKit
set_option maxRecDepth 100000
set_option linter.unusedVariables false
set_option linter.unusedSimpArgs false

noncomputable def C_stake_find : Code := Try.f69.body.getD .skip
noncomputable def live_stake_find : List (List Nat) := [[0, 1], [1, 7, 8, 9], [1, 7, 8, 9, 10], [1, 6, 7, 8, 9], [1, 6, 7, 8, 9, 16], [4], [1, 7, 8, 9], [4]]
noncomputable def Y_stake_find : EnvT := ⟨Try.prog, lookT []⟩
theorem hY_stake_find : (Y_stake_find).Ok := lookT_ok trivial
noncomputable def T_stake_find_l1 (x0 : Int) (x1 : (List Power)) (x2 : Int) (x3 : Int) : Tr ((Int × (List Power) × Int × Int) ⊕ ((Int) ⊕ (Unit))) :=
  (.ite (decide (x3 < x2))
    (.guard ((0 : Int) ≤ x3 ∧ x3 < ((Sl.len (.powers x1) : Nat) : Int))
    (.ite (((x1.getD x3.toNat default).V) == x0)
      (.leaf (.inr (.inl ((x1.getD x3.toNat default).N))))
      (.leaf (.inl (x0, x1, x2, IntKind.i64.wrap (x3 + 1))))))
    (.leaf (.inr (.inr ()))))
noncomputable def sh_stake_find_l1 (x0 : Int) (x1 : (List Power)) (x2 : Int) (x3 : Int) : Option ((Int) ⊕ (Unit)) := iter (fun s : Int × (List Power) × Int × Int => (T_stake_find_l1 s.1 s.2.1 s.2.2.1 s.2.2.2).run) (x0, x1, x2, x3)
noncomputable def A_stake_find_l1 : Ann := ⟨[], [], [], live_stake_find, []⟩
noncomputable def q_stake_find_l1 : LQ (Int × (List Power) × Int × Int) := (LQ.seq (Par.q intP) (LQ.seq (Par.q powersP) (LQ.seq (Par.q intP) (Par.q intP))))
noncomputable def p_stake_find_l1 : Pat := ⟨[1, 7, 8, 9], [.pub 7, .nilsl 7 (.powers [])]⟩
noncomputable def s_stake_find_l1 : List BS := []
noncomputable def q_stake_find_l1_e0 : LQ (Int) := (Par.q intP)
noncomputable def p_stake_find_l1_e0 : Pat := ⟨[4], []⟩
noncomputable def s_stake_find_l1_e0 : List BS := []
noncomputable def q_stake_find_l1_e1 : LQ (Unit) := LQ.nil
noncomputable def p_stake_find_l1_e1 : Pat := ⟨[], []⟩
noncomputable def s_stake_find_l1_e1 : List BS := []
noncomputable def L_stake_find_l1 : St → Option LR := pieceL q_stake_find_l1 20 0 p_stake_find_l1 s_stake_find_l1 (fun o => LR.two o (fun r => (.ret, stP q_stake_find_l1_e0 20 3 p_stake_find_l1_e0 s_stake_find_l1_e0 r)) (fun r => (.exit 0, stP q_stake_find_l1_e1 20 3 p_stake_find_l1_e1 s_stake_find_l1_e1 r))) (fun a => iter (fun s : Int × (List Power) × Int × Int => (T_stake_find_l1 s.1 s.2.1 s.2.2.1 s.2.2.2).run) a)
noncomputable def E_stake_find_l1 : Exit → Option (End ((Int × (List Power) × Int × Int) ⊕ ((Int) ⊕ (Unit))))
  | .normal => some ⟨_, q_stake_find_l1, p_stake_find_l1, s_stake_find_l1, fun b => .inl b⟩
  | .ret => some ⟨_, q_stake_find_l1_e0, p_stake_find_l1_e0, s_stake_find_l1_e0, fun b => .inr (.inl b)⟩
  | .exit 0 => some ⟨_, q_stake_find_l1_e1, p_stake_find_l1_e1, s_stake_find_l1_e1, fun b => .inr (.inr b)⟩
  | _ => none
noncomputable def O_stake_find_l1 : ((Int × (List Power) × Int × Int) ⊕ ((Int) ⊕ (Unit))) → Exit × St
  | .inl b => (.normal, stP q_stake_find_l1 20 3 p_stake_find_l1 s_stake_find_l1 b)
  | .inr (.inl b) => (.ret, stP q_stake_find_l1_e0 20 3 p_stake_find_l1_e0 s_stake_find_l1_e0 b)
  | .inr (.inr b) => (.exit 0, stP q_stake_find_l1_e1 20 3 p_stake_find_l1_e1 s_stake_find_l1_e1 b)
theorem lok_stake_find_l1 : PieceOk (Y_stake_find).env 0 (sub C_stake_find [0, 1, 0, 1]) L_stake_find_l1 :=
  loop_ok (Y := Y_stake_find) (A := A_stake_find_l1) hY_stake_find Facts.mix (root := C_stake_find) (L := 0) trivial (π := [0, 1, 0, 1]) (c := loopB (sub C_stake_find [0, 1, 0, 1])) (by kernel_rfl) q_stake_find_l1 20 3 p_stake_find_l1 s_stake_find_l1 E_stake_find_l1 (fun s => T_stake_find_l1 s.1 s.2.1 s.2.2.1 s.2.2.2) O_stake_find_l1 (by intro e d h b; unfold E_stake_find_l1 at h; split at h <;> first | (cases h; rfl) | cases h) (fun _ => rfl) (by intro r; cases r <;> exact (fun h => by cases h)) (fun o => LR.two o (fun r => (.ret, stP q_stake_find_l1_e0 20 3 p_stake_find_l1_e0 s_stake_find_l1_e0 r)) (fun r => (.exit 0, stP q_stake_find_l1_e1 20 3 p_stake_find_l1_e1 s_stake_find_l1_e1 r))) (by intro o Q h; exact Or.elim h (fun ⟨v, h1, h2⟩ => ⟨_, h1, h2⟩) (fun ⟨v, h1, h2⟩ => ⟨_, h1, h2⟩))
    (by rintro ⟨x0, x1, x2, x3⟩; kernel_rfl)
noncomputable def A_stake_find : Ann := ⟨[([0, 1, 0, 1], L_stake_find_l1)], [], [], live_stake_find, []⟩
noncomputable def T_stake_find (a0 : (List Power)) (a1 : Int) : Tr (Int) :=
  (.two (sh_stake_find_l1 a1 a0 ((a0.length : Nat) : Int) 0) (fun v1 =>
    (.leaf v1)) (fun v2 =>
    (.leaf 0)))
noncomputable def sh_stake_find (a0 : (List Power)) (a1 : Int) : Option (Int) := (T_stake_find a0 a1).run
noncomputable def qa_stake_find : LQ ((List Power) × Int) := (LQ.seq (Par.q powersP) (Par.q intP))
noncomputable def qr_stake_find : LQ (Int) := (Par.q intP)
noncomputable def F_stake_find : SpecT := specF 0 qa_stake_find 2 [] (fun s => T_stake_find s.1 s.2) default qr_stake_find 1 []
theorem ok_stake_find : SpecOk Try.prog 69 (F_stake_find).spec :=
  specF_ok (Y := Y_stake_find) (A := A_stake_find) hY_stake_find Facts.mix Try.func69 (c := C_stake_find) (by kernel_rfl) (Lc := 0) ⟨lok_stake_find_l1, trivial⟩ qa_stake_find 2 3 [] (fun s => T_stake_find s.1 s.2) default qr_stake_find 1 [] [] (by decide) (by kernel_rfl) (by rfl) (by decide) (by decide) (by rfl)
    (by rintro ⟨a0, a1⟩; kernel_rfl)

noncomputable def C_stake_Diff : Code := Try.f33.body.getD .skip
noncomputable def live_stake_Diff : List (List Nat) := [[0, 1], [0, 1, 5], [0, 1, 5, 8], [0, 1, 5, 8, 9], [0, 1, 5, 6, 8], [0, 1, 5, 6, 7, 8], [0, 1, 5, 6, 7, 8, 18], [0, 1, 5, 8], [0, 1, 5, 8], [4]]
noncomputable def Y_stake_Diff : EnvT := ⟨Try.prog, lookT [(69, F_stake_find)]⟩
theorem hY_stake_Diff : (Y_stake_Diff).Ok := lookT_ok ⟨ok_stake_find, trivial⟩
noncomputable def T_stake_Diff_l1 (x0 : (List Power)) (x1 : (List Power)) (x2 : Int) (x3 : (List Power)) : Tr (((List Power) × (List Power) × Int × (List Power)) ⊕ ((List Power))) :=
  (.ite (decide (x2 < 6))
    (.bind (sh_stake_find x1 x2) fun v1 =>
    (.bind (sh_stake_find x0 x2) fun v2 =>
    (.ite (v1 != v2)
      (.guard ((Sl.len (.powers x3) + Sl.len (.powers [(⟨x2, v1⟩ : Power)])) * 16 ≤ 140737488355328)
      (.leaf (.inl (x0, x1, IntKind.i64.wrap (x2 + 1), x3 ++ [(⟨x2, v1⟩ : Power)]))))
      (.leaf (.inl (x0, x1, IntKind.i64.wrap (x2 + 1), x3))))))
    (.leaf (.inr x3)))
noncomputable def sh_stake_Diff_l1 (x0 : (List Power)) (x1 : (List Power)) (x2 : Int) (x3 : (List Power)) : Option ((List Power)) := iter (fun s : (List Power) × (List Power) × Int × (List Power) => (T_stake_Diff_l1 s.1 s.2.1 s.2.2.1 s.2.2.2).run) (x0, x1, x2, x3)
noncomputable def A_stake_Diff_l1 : Ann := ⟨[], [], [], live_stake_Diff, []⟩
noncomputable def q_stake_Diff_l1 : LQ ((List Power) × (List Power) × Int × (List Power)) := (LQ.seq (Par.q powersP) (LQ.seq (Par.q powersP) (LQ.skip (LQ.const (.own 0)) (LQ.seq (Par.q intP) (Par.q powersP)))))
noncomputable def p_stake_Diff_l1 : Pat := ⟨[0, 1, 5, 8], [.pub 0, .nilsl 0 (.powers []), .pub 1, .nilsl 1 (.powers []), .nilown 5 45 (.powers [])]⟩
noncomputable def s_stake_Diff_l1 : List BS := [.rows 45]
noncomputable def q_stake_Diff_l1_e0 : LQ ((List Power)) := (LQ.skip (LQ.const (.own 0)) (Par.q powersP))
noncomputable def p_stake_Diff_l1_e0 : Pat := ⟨[5], [.nilown 5 45 (.powers [])]⟩
noncomputable def s_stake_Diff_l1_e0 : List BS := [.rows 45]
noncomputable def L_stake_Diff_l1 : St → Option LR := pieceL q_stake_Diff_l1 27 0 p_stake_Diff_l1 s_stake_Diff_l1 (fun o => LR.one o (fun r => (.exit 0, stP q_stake_Diff_l1_e0 27 5 p_stake_Diff_l1_e0 s_stake_Diff_l1_e0 r))) (fun a => iter (fun s : (List Power) × (List Power) × Int × (List Power) => (T_stake_Diff_l1 s.1 s.2.1 s.2.2.1 s.2.2.2).run) a)
noncomputable def E_stake_Diff_l1 : Exit → Option (End (((List Power) × (List Power) × Int × (List Power)) ⊕ ((List Power))))
  | .normal => some ⟨_, q_stake_Diff_l1, p_stake_Diff_l1, s_stake_Diff_l1, fun b => .inl b⟩
  | .exit 0 => some ⟨_, q_stake_Diff_l1_e0, p_stake_Diff_l1_e0, s_stake_Diff_l1_e0, fun b => .inr b⟩
  | _ => none
noncomputable def O_stake_Diff_l1 : (((List Power) × (List Power) × Int × (List Power)) ⊕ ((List Power))) → Exit × St
  | .inl b => (.normal, stP q_stake_Diff_l1 27 5 p_stake_Diff_l1 s_stake_Diff_l1 b)
  | .inr b => (.exit 0, stP q_stake_Diff_l1_e0 27 5 p_stake_Diff_l1_e0 s_stake_Diff_l1_e0 b)
theorem lok_stake_Diff_l1 : PieceOk (Y_stake_Diff).env 0 (sub C_stake_Diff [0, 1, 0, 1, 1]) L_stake_Diff_l1 :=
  loop_ok (Y := Y_stake_Diff) (A := A_stake_Diff_l1) hY_stake_Diff Facts.mix (root := C_stake_Diff) (L := 0) trivial (π := [0, 1, 0, 1, 1]) (c := loopB (sub C_stake_Diff [0, 1, 0, 1, 1])) (by kernel_rfl) q_stake_Diff_l1 27 5 p_stake_Diff_l1 s_stake_Diff_l1 E_stake_Diff_l1 (fun s => T_stake_Diff_l1 s.1 s.2.1 s.2.2.1 s.2.2.2) O_stake_Diff_l1 (by intro e d h b; unfold E_stake_Diff_l1 at h; split at h <;> first | (cases h; rfl) | cases h) (fun _ => rfl) (by intro r; exact (fun h => by cases h)) (fun o => LR.one o (fun r => (.exit 0, stP q_stake_Diff_l1_e0 27 5 p_stake_Diff_l1_e0 s_stake_Diff_l1_e0 r))) (by intro o Q h; obtain ⟨v, h1, h2⟩ := h; exact ⟨v, h1, h2⟩)
    (by rintro ⟨x0, x1, x2, x3⟩; kernel_rfl)
noncomputable def A_stake_Diff : Ann := ⟨[([0, 1, 0, 1, 1], L_stake_Diff_l1)], [], [], live_stake_Diff, []⟩
noncomputable def T_stake_Diff (a0 : (List Power)) (a1 : (List Power)) : Tr ((List Power)) :=
  (.bind (sh_stake_Diff_l1 a0 a1 0 []) fun v3 =>
  (.leaf v3))
noncomputable def sh_stake_Diff (a0 : (List Power)) (a1 : (List Power)) : Option ((List Power)) := (T_stake_Diff a0 a1).run
noncomputable def qa_stake_Diff : LQ ((List Power) × (List Power)) := (LQ.seq (Par.q powersP) (Par.q powersP))
noncomputable def qr_stake_Diff : LQ ((List Power)) := (Par.q powersP)
noncomputable def F_stake_Diff : SpecT := specF 0 qa_stake_Diff 2 [] (fun s => T_stake_Diff s.1 s.2) default qr_stake_Diff 1 []
theorem ok_stake_Diff : SpecOk Try.prog 33 (F_stake_Diff).spec :=
  specF_ok (Y := Y_stake_Diff) (A := A_stake_Diff) hY_stake_Diff Facts.mix Try.func33 (c := C_stake_Diff) (by kernel_rfl) (Lc := 0) ⟨lok_stake_Diff_l1, trivial⟩ qa_stake_Diff 2 5 [] (fun s => T_stake_Diff s.1 s.2) default qr_stake_Diff 1 [] [.pub 4] (by decide) (by kernel_rfl) (by rfl) (by decide) (by decide) (by rfl)
    (by rintro ⟨a0, a1⟩; kernel_rfl)

noncomputable def C_stake_Apply : Code := Try.f36.body.getD .skip
noncomputable def live_stake_Apply : List (List Nat) := [[0, 1], [0, 1, 5], [0, 1, 5, 10], [0, 1, 5, 10, 11], [0, 1, 5, 6, 10], [0, 1, 5, 6, 7, 10], [0, 1, 5, 6, 7, 10, 16, 17, 18], [0, 1, 5, 6, 7, 10, 16, 17, 18, 19], [0, 1, 5, 6, 7, 9, 10, 16, 17, 18], [0, 1, 5, 6, 7, 9, 10, 16, 17, 18, 25], [0, 1, 5, 6, 7, 10, 16, 17, 18], [0, 1, 5, 6, 7, 10, 16, 17, 18], [0, 1, 5, 6, 7, 10, 30], [0, 1, 5, 10], [0, 1, 5, 10], [4]]
noncomputable def Y_stake_Apply : EnvT := ⟨Try.prog, lookT [(69, F_stake_find)]⟩
theorem hY_stake_Apply : (Y_stake_Apply).Ok := lookT_ok ⟨ok_stake_find, trivial⟩
noncomputable def T_stake_Apply_l1 (x0 : (List Power)) (x1 : (List Power)) (x2 : Int) (x3 : Int) (x4 : Int) (x5 : (List Power)) (x6 : Int) (x7 : Int) (x8 : (List Power)) : Tr (((List Power) × (List Power) × Int × Int × Int × (List Power) × Int × Int × (List Power)) ⊕ ((List Power) × (List Power) × Int × Int × Int × (List Power))) :=
  (.ite (decide (x7 < x6))
    (.guard ((0 : Int) ≤ x7 ∧ x7 < ((Sl.len (.powers x5) : Nat) : Int))
    (.ite (((x5.getD x7.toNat default).V) == x2)
      (.leaf (.inl (x0, x1, x2, (x5.getD x7.toNat default).N, x4, x5, x6, IntKind.i64.wrap (x7 + 1), x8)))
      (.leaf (.inl (x0, x1, x2, x3, x4, x5, x6, IntKind.i64.wrap (x7 + 1), x8)))))
    (.leaf (.inr (x0, x1, x2, x3, x4, x8))))
noncomputable def sh_stake_Apply_l1 (x0 : (List Power)) (x1 : (List Power)) (x2 : Int) (x3 : Int) (x4 : Int) (x5 : (List Power)) (x6 : Int) (x7 : Int) (x8 : (List Power)) : Option ((List Power) × (List Power) × Int × Int × Int × (List Power)) := iter (fun s : (List Power) × (List Power) × Int × Int × Int × (List Power) × Int × Int × (List Power) => (T_stake_Apply_l1 s.1 s.2.1 s.2.2.1 s.2.2.2.1 s.2.2.2.2.1 s.2.2.2.2.2.1 s.2.2.2.2.2.2.1 s.2.2.2.2.2.2.2.1 s.2.2.2.2.2.2.2.2).run) (x0, x1, x2, x3, x4, x5, x6, x7, x8)
noncomputable def A_stake_Apply_l1 : Ann := ⟨[], [], [], live_stake_Apply, []⟩
noncomputable def q_stake_Apply_l1 : LQ ((List Power) × (List Power) × Int × Int × Int × (List Power) × Int × Int × (List Power)) := (LQ.seq (Par.q powersP) (LQ.seq (Par.q powersP) (LQ.skip (LQ.const (.own 0)) (LQ.seq (Par.q intP) (LQ.seq (Par.q intP) (LQ.seq (Par.q intP) (LQ.seq (Par.q powersP) (LQ.seq (Par.q intP) (LQ.seq (Par.q intP) (Par.q powersP))))))))))
noncomputable def p_stake_Apply_l1 : Pat := ⟨[0, 1, 5, 6, 7, 10, 16, 17, 18], [.pub 0, .nilsl 0 (.powers []), .pub 1, .nilsl 1 (.powers []), .nilown 5 45 (.powers []), .pub 16, .nilsl 16 (.powers [])]⟩
noncomputable def s_stake_Apply_l1 : List BS := [.rows 45]
noncomputable def q_stake_Apply_l1_e0 : LQ ((List Power) × (List Power) × Int × Int × Int × (List Power)) := (LQ.seq (Par.q powersP) (LQ.seq (Par.q powersP) (LQ.skip (LQ.const (.own 0)) (LQ.seq (Par.q intP) (LQ.seq (Par.q intP) (LQ.seq (Par.q intP) (Par.q powersP)))))))
noncomputable def p_stake_Apply_l1_e0 : Pat := ⟨[0, 1, 5, 6, 7, 10], [.pub 0, .nilsl 0 (.powers []), .pub 1, .nilsl 1 (.powers []), .nilown 5 45 (.powers [])]⟩
noncomputable def s_stake_Apply_l1_e0 : List BS := [.rows 45]
noncomputable def L_stake_Apply_l1 : St → Option LR := pieceL q_stake_Apply_l1 39 0 p_stake_Apply_l1 s_stake_Apply_l1 (fun o => LR.one o (fun r => (.exit 2, stP q_stake_Apply_l1_e0 39 5 p_stake_Apply_l1_e0 s_stake_Apply_l1_e0 r))) (fun a => iter (fun s : (List Power) × (List Power) × Int × Int × Int × (List Power) × Int × Int × (List Power) => (T_stake_Apply_l1 s.1 s.2.1 s.2.2.1 s.2.2.2.1 s.2.2.2.2.1 s.2.2.2.2.2.1 s.2.2.2.2.2.2.1 s.2.2.2.2.2.2.2.1 s.2.2.2.2.2.2.2.2).run) a)
noncomputable def E_stake_Apply_l1 : Exit → Option (End (((List Power) × (List Power) × Int × Int × Int × (List Power) × Int × Int × (List Power)) ⊕ ((List Power) × (List Power) × Int × Int × Int × (List Power))))
  | .normal => some ⟨_, q_stake_Apply_l1, p_stake_Apply_l1, s_stake_Apply_l1, fun b => .inl b⟩
  | .exit 2 => some ⟨_, q_stake_Apply_l1_e0, p_stake_Apply_l1_e0, s_stake_Apply_l1_e0, fun b => .inr b⟩
  | _ => none
noncomputable def O_stake_Apply_l1 : (((List Power) × (List Power) × Int × Int × Int × (List Power) × Int × Int × (List Power)) ⊕ ((List Power) × (List Power) × Int × Int × Int × (List Power))) → Exit × St
  | .inl b => (.normal, stP q_stake_Apply_l1 39 5 p_stake_Apply_l1 s_stake_Apply_l1 b)
  | .inr b => (.exit 2, stP q_stake_Apply_l1_e0 39 5 p_stake_Apply_l1_e0 s_stake_Apply_l1_e0 b)
theorem lok_stake_Apply_l1 : PieceOk (Y_stake_Apply).env 0 (sub C_stake_Apply [0, 1, 0, 1, 1, 0, 0, 1, 1, 0, 0, 1, 0, 1, 1]) L_stake_Apply_l1 :=
  loop_ok (Y := Y_stake_Apply) (A := A_stake_Apply_l1) hY_stake_Apply Facts.mix (root := C_stake_Apply) (L := 0) trivial (π := [0, 1, 0, 1, 1, 0, 0, 1, 1, 0, 0, 1, 0, 1, 1]) (c := loopB (sub C_stake_Apply [0, 1, 0, 1, 1, 0, 0, 1, 1, 0, 0, 1, 0, 1, 1])) (by kernel_rfl) q_stake_Apply_l1 39 5 p_stake_Apply_l1 s_stake_Apply_l1 E_stake_Apply_l1 (fun s => T_stake_Apply_l1 s.1 s.2.1 s.2.2.1 s.2.2.2.1 s.2.2.2.2.1 s.2.2.2.2.2.1 s.2.2.2.2.2.2.1 s.2.2.2.2.2.2.2.1 s.2.2.2.2.2.2.2.2) O_stake_Apply_l1 (by intro e d h b; unfold E_stake_Apply_l1 at h; split at h <;> first | (cases h; rfl) | cases h) (fun _ => rfl) (by intro r; exact (fun h => by cases h)) (fun o => LR.one o (fun r => (.exit 2, stP q_stake_Apply_l1_e0 39 5 p_stake_Apply_l1_e0 s_stake_Apply_l1_e0 r))) (by intro o Q h; obtain ⟨v, h1, h2⟩ := h; exact ⟨v, h1, h2⟩)
    (by rintro ⟨x0, x1, x2, x3, x4, x5, x6, x7, x8⟩; kernel_rfl)
noncomputable def T_stake_Apply_l2 (x0 : (List Power)) (x1 : (List Power)) (x2 : Int) (x3 : (List Power)) : Tr (((List Power) × (List Power) × Int × (List Power)) ⊕ ((List Power))) :=
  (.ite (decide (x2 < 6))
    (.bind (sh_stake_find x0 x2) fun v1 =>
    (.bind (sh_stake_Apply_l1 x0 x1 x2 v1 x2 x1 ((x1.length : Nat) : Int) 0 x3) fun v2 =>
    (.ite (decide (v2.2.2.2.1 > 0))
      (.guard ((Sl.len (.powers v2.2.2.2.2.2) + Sl.len (.powers [(⟨v2.2.2.1, v2.2.2.2.1⟩ : Power)])) * 16 ≤ 140737488355328)
      (.leaf (.inl (v2.1, v2.2.1, IntKind.i64.wrap (v2.2.2.2.2.1 + 1), v2.2.2.2.2.2 ++ [(⟨v2.2.2.1, v2.2.2.2.1⟩ : Power)]))))
      (.leaf (.inl (v2.1, v2.2.1, IntKind.i64.wrap (v2.2.2.2.2.1 + 1), v2.2.2.2.2.2))))))
    (.leaf (.inr x3)))
noncomputable def sh_stake_Apply_l2 (x0 : (List Power)) (x1 : (List Power)) (x2 : Int) (x3 : (List Power)) : Option ((List Power)) := iter (fun s : (List Power) × (List Power) × Int × (List Power) => (T_stake_Apply_l2 s.1 s.2.1 s.2.2.1 s.2.2.2).run) (x0, x1, x2, x3)
noncomputable def A_stake_Apply_l2 : Ann := ⟨[([0, 1, 0, 1, 1, 0, 0, 1, 1, 0, 0, 1, 0, 1, 1], L_stake_Apply_l1)], [], [], live_stake_Apply, []⟩
noncomputable def q_stake_Apply_l2 : LQ ((List Power) × (List Power) × Int × (List Power)) := (LQ.seq (Par.q powersP) (LQ.seq (Par.q powersP) (LQ.skip (LQ.const (.own 0)) (LQ.seq (Par.q intP) (Par.q powersP)))))
noncomputable def p_stake_Apply_l2 : Pat := ⟨[0, 1, 5, 10], [.pub 0, .nilsl 0 (.powers []), .pub 1, .nilsl 1 (.powers []), .nilown 5 45 (.powers [])]⟩
noncomputable def s_stake_Apply_l2 : List BS := [.rows 45]
noncomputable def q_stake_Apply_l2_e0 : LQ ((List Power)) := (LQ.skip (LQ.const (.own 0)) (Par.q powersP))
noncomputable def p_stake_Apply_l2_e0 : Pat := ⟨[5], [.nilown 5 45 (.powers [])]⟩
noncomputable def s_stake_Apply_l2_e0 : List BS := [.rows 45]
noncomputable def L_stake_Apply_l2 : St → Option LR := pieceL q_stake_Apply_l2 39 0 p_stake_Apply_l2 s_stake_Apply_l2 (fun o => LR.one o (fun r => (.exit 0, stP q_stake_Apply_l2_e0 39 5 p_stake_Apply_l2_e0 s_stake_Apply_l2_e0 r))) (fun a => iter (fun s : (List Power) × (List Power) × Int × (List Power) => (T_stake_Apply_l2 s.1 s.2.1 s.2.2.1 s.2.2.2).run) a)
noncomputable def E_stake_Apply_l2 : Exit → Option (End (((List Power) × (List Power) × Int × (List Power)) ⊕ ((List Power))))
  | .normal => some ⟨_, q_stake_Apply_l2, p_stake_Apply_l2, s_stake_Apply_l2, fun b => .inl b⟩
  | .exit 0 => some ⟨_, q_stake_Apply_l2_e0, p_stake_Apply_l2_e0, s_stake_Apply_l2_e0, fun b => .inr b⟩
  | _ => none
noncomputable def O_stake_Apply_l2 : (((List Power) × (List Power) × Int × (List Power)) ⊕ ((List Power))) → Exit × St
  | .inl b => (.normal, stP q_stake_Apply_l2 39 5 p_stake_Apply_l2 s_stake_Apply_l2 b)
  | .inr b => (.exit 0, stP q_stake_Apply_l2_e0 39 5 p_stake_Apply_l2_e0 s_stake_Apply_l2_e0 b)
theorem lok_stake_Apply_l2 : PieceOk (Y_stake_Apply).env 0 (sub C_stake_Apply [0, 1, 0, 1, 1]) L_stake_Apply_l2 :=
  loop_ok (Y := Y_stake_Apply) (A := A_stake_Apply_l2) hY_stake_Apply Facts.mix (root := C_stake_Apply) (L := 0) ⟨lok_stake_Apply_l1, trivial⟩ (π := [0, 1, 0, 1, 1]) (c := loopB (sub C_stake_Apply [0, 1, 0, 1, 1])) (by kernel_rfl) q_stake_Apply_l2 39 5 p_stake_Apply_l2 s_stake_Apply_l2 E_stake_Apply_l2 (fun s => T_stake_Apply_l2 s.1 s.2.1 s.2.2.1 s.2.2.2) O_stake_Apply_l2 (by intro e d h b; unfold E_stake_Apply_l2 at h; split at h <;> first | (cases h; rfl) | cases h) (fun _ => rfl) (by intro r; exact (fun h => by cases h)) (fun o => LR.one o (fun r => (.exit 0, stP q_stake_Apply_l2_e0 39 5 p_stake_Apply_l2_e0 s_stake_Apply_l2_e0 r))) (by intro o Q h; obtain ⟨v, h1, h2⟩ := h; exact ⟨v, h1, h2⟩)
    (by rintro ⟨x0, x1, x2, x3⟩; kernel_rfl)
noncomputable def A_stake_Apply : Ann := ⟨[([0, 1, 0, 1, 1], L_stake_Apply_l2)], [], [], live_stake_Apply, []⟩
noncomputable def T_stake_Apply (a0 : (List Power)) (a1 : (List Power)) : Tr ((List Power)) :=
  (.bind (sh_stake_Apply_l2 a0 a1 0 []) fun v3 =>
  (.leaf v3))
noncomputable def sh_stake_Apply (a0 : (List Power)) (a1 : (List Power)) : Option ((List Power)) := (T_stake_Apply a0 a1).run
noncomputable def qa_stake_Apply : LQ ((List Power) × (List Power)) := (LQ.seq (Par.q powersP) (Par.q powersP))
noncomputable def qr_stake_Apply : LQ ((List Power)) := (Par.q powersP)
noncomputable def F_stake_Apply : SpecT := specF 0 qa_stake_Apply 2 [] (fun s => T_stake_Apply s.1 s.2) default qr_stake_Apply 1 []
theorem ok_stake_Apply : SpecOk Try.prog 36 (F_stake_Apply).spec :=
  specF_ok (Y := Y_stake_Apply) (A := A_stake_Apply) hY_stake_Apply Facts.mix Try.func36 (c := C_stake_Apply) (by kernel_rfl) (Lc := 0) ⟨lok_stake_Apply_l2, trivial⟩ qa_stake_Apply 2 5 [] (fun s => T_stake_Apply s.1 s.2) default qr_stake_Apply 1 [] [.pub 4] (by decide) (by kernel_rfl) (by rfl) (by decide) (by decide) (by rfl)
    (by rintro ⟨a0, a1⟩; kernel_rfl)

noncomputable def C_stake_All : Code := Try.f38.body.getD .skip
noncomputable def live_stake_All : List (List Nat) := [[0], [0, 3], [3, 6, 7, 8], [3, 6, 7, 8, 9], [3, 5, 6, 7, 8], [3, 6, 7, 8], [3, 6, 7, 8], [2]]
noncomputable def Y_stake_All : EnvT := ⟨Try.prog, lookT []⟩
theorem hY_stake_All : (Y_stake_All).Ok := lookT_ok trivial
noncomputable def T_stake_All_l1 (x0 : Int) (x1 : (List Power)) (x2 : Int) (x3 : Int) : Tr ((Int × (List Power) × Int × Int) ⊕ (Int)) :=
  (.ite (decide (x3 < x2))
    (.guard ((0 : Int) ≤ x3 ∧ x3 < ((Sl.len (.powers x1) : Nat) : Int))
    (.leaf (.inl (IntKind.i64.wrap (x0 + ((x1.getD x3.toNat default).N)), x1, x2, IntKind.i64.wrap (x3 + 1)))))
    (.leaf (.inr x0)))
noncomputable def sh_stake_All_l1 (x0 : Int) (x1 : (List Power)) (x2 : Int) (x3 : Int) : Option (Int) := iter (fun s : Int × (List Power) × Int × Int => (T_stake_All_l1 s.1 s.2.1 s.2.2.1 s.2.2.2).run) (x0, x1, x2, x3)
noncomputable def A_stake_All_l1 : Ann := ⟨[], [], [], live_stake_All, []⟩
noncomputable def q_stake_All_l1 : LQ (Int × (List Power) × Int × Int) := (LQ.seq (Par.q intP) (LQ.seq (Par.q powersP) (LQ.seq (Par.q intP) (Par.q intP))))
noncomputable def p_stake_All_l1 : Pat := ⟨[3, 6, 7, 8], [.pub 6, .nilsl 6 (.powers [])]⟩
noncomputable def s_stake_All_l1 : List BS := []
noncomputable def q_stake_All_l1_e0 : LQ (Int) := (Par.q intP)
noncomputable def p_stake_All_l1_e0 : Pat := ⟨[3], []⟩
noncomputable def s_stake_All_l1_e0 : List BS := []
noncomputable def L_stake_All_l1 : St → Option LR := pieceL q_stake_All_l1 18 0 p_stake_All_l1 s_stake_All_l1 (fun o => LR.one o (fun r => (.exit 0, stP q_stake_All_l1_e0 18 3 p_stake_All_l1_e0 s_stake_All_l1_e0 r))) (fun a => iter (fun s : Int × (List Power) × Int × Int => (T_stake_All_l1 s.1 s.2.1 s.2.2.1 s.2.2.2).run) a)
noncomputable def E_stake_All_l1 : Exit → Option (End ((Int × (List Power) × Int × Int) ⊕ (Int)))
  | .normal => some ⟨_, q_stake_All_l1, p_stake_All_l1, s_stake_All_l1, fun b => .inl b⟩
  | .exit 0 => some ⟨_, q_stake_All_l1_e0, p_stake_All_l1_e0, s_stake_All_l1_e0, fun b => .inr b⟩
  | _ => none
noncomputable def O_stake_All_l1 : ((Int × (List Power) × Int × Int) ⊕ (Int)) → Exit × St
  | .inl b => (.normal, stP q_stake_All_l1 18 3 p_stake_All_l1 s_stake_All_l1 b)
  | .inr b => (.exit 0, stP q_stake_All_l1_e0 18 3 p_stake_All_l1_e0 s_stake_All_l1_e0 b)
theorem lok_stake_All_l1 : PieceOk (Y_stake_All).env 0 (sub C_stake_All [0, 1, 0, 1, 1]) L_stake_All_l1 :=
  loop_ok (Y := Y_stake_All) (A := A_stake_All_l1) hY_stake_All Facts.mix (root := C_stake_All) (L := 0) trivial (π := [0, 1, 0, 1, 1]) (c := loopB (sub C_stake_All [0, 1, 0, 1, 1])) (by kernel_rfl) q_stake_All_l1 18 3 p_stake_All_l1 s_stake_All_l1 E_stake_All_l1 (fun s => T_stake_All_l1 s.1 s.2.1 s.2.2.1 s.2.2.2) O_stake_All_l1 (by intro e d h b; unfold E_stake_All_l1 at h; split at h <;> first | (cases h; rfl) | cases h) (fun _ => rfl) (by intro r; exact (fun h => by cases h)) (fun o => LR.one o (fun r => (.exit 0, stP q_stake_All_l1_e0 18 3 p_stake_All_l1_e0 s_stake_All_l1_e0 r))) (by intro o Q h; obtain ⟨v, h1, h2⟩ := h; exact ⟨v, h1, h2⟩)
    (by rintro ⟨x0, x1, x2, x3⟩; kernel_rfl)
noncomputable def A_stake_All : Ann := ⟨[([0, 1, 0, 1, 1], L_stake_All_l1)], [], [], live_stake_All, []⟩
noncomputable def T_stake_All (a0 : (List Power)) : Tr (Int) :=
  (.bind (sh_stake_All_l1 0 a0 ((a0.length : Nat) : Int) 0) fun v1 =>
  (.leaf v1))
noncomputable def sh_stake_All (a0 : (List Power)) : Option (Int) := (T_stake_All a0).run
noncomputable def qa_stake_All : LQ ((List Power)) := (Par.q powersP)
noncomputable def qr_stake_All : LQ (Int) := (Par.q intP)
noncomputable def F_stake_All : SpecT := specF 0 qa_stake_All 1 [] (fun s => T_stake_All s) default qr_stake_All 1 []
theorem ok_stake_All : SpecOk Try.prog 38 (F_stake_All).spec :=
  specF_ok (Y := Y_stake_All) (A := A_stake_All) hY_stake_All Facts.mix Try.func38 (c := C_stake_All) (by kernel_rfl) (Lc := 0) ⟨lok_stake_All_l1, trivial⟩ qa_stake_All 1 3 [] (fun s => T_stake_All s) default qr_stake_All 1 [] [] (by decide) (by kernel_rfl) (by rfl) (by decide) (by decide) (by rfl)
    (by rintro a0; kernel_rfl)

noncomputable def C_ref_row : Code := Try.f70.body.getD .skip
noncomputable def live_ref_row : List (List Nat) := [[0, 2], [0, 2, 3], [0, 2, 3, 4], [0, 2, 3, 4, 9], [0, 2, 3, 4], [0, 2, 3, 4, 25], [0, 2, 3, 4], [2]]
noncomputable def Y_ref_row : EnvT := ⟨Try.prog, lookT []⟩
theorem hY_ref_row : (Y_ref_row).Ok := lookT_ok trivial
noncomputable def T_ref_row_l1 (x0 : (List Power)) (x1 : Int) (x2 : (A6 Int)) (x3 : (A6 Int)) : Tr (((List Power) × Int × (A6 Int) × (A6 Int)) ⊕ ((A6 Int) × (A6 Int))) :=
  (.ite (decide (x1 ≥ 0))
    (.guard ((0 : Int) ≤ x1 ∧ x1 < ((Sl.len (.powers x0) : Nat) : Int))
    (.guard (((decide (((x0.getD x1.toNat default).V) ≥ 0)) = true → ((0 : Int) ≤ x1 ∧ x1 < ((Sl.len (.powers x0) : Nat) : Int)) ∧ True))
    (.ite ((decide (((x0.getD x1.toNat default).V) ≥ 0)) && (decide (((x0.getD x1.toNat default).V) < 6)))
      (.guard ((0 : Int) ≤ x1 ∧ x1 < ((Sl.len (.powers x0) : Nat) : Int))
      (.guard ((0 : Int) ≤ x1 ∧ x1 < ((Sl.len (.powers x0) : Nat) : Int))
      (.guard ((0 : Int) ≤ ((x0.getD x1.toNat default).V) ∧ (((x0.getD x1.toNat default).V) : Int) < 6)
      (.leaf (.inl (x0, IntKind.i64.wrap (x1 - 1), x2, (x3.set ((x0.getD x1.toNat default).V) ((x0.getD x1.toNat default).N))))))))
      (.leaf (.inl (x0, IntKind.i64.wrap (x1 - 1), x2, x3))))))
    (.leaf (.inr (x2, x3))))
noncomputable def sh_ref_row_l1 (x0 : (List Power)) (x1 : Int) (x2 : (A6 Int)) (x3 : (A6 Int)) : Option ((A6 Int) × (A6 Int)) := iter (fun s : (List Power) × Int × (A6 Int) × (A6 Int) => (T_ref_row_l1 s.1 s.2.1 s.2.2.1 s.2.2.2).run) (x0, x1, x2, x3)
noncomputable def A_ref_row_l1 : Ann := ⟨[], [], [], live_ref_row, []⟩
noncomputable def q_ref_row_l1 : LQ ((List Power) × Int × (A6 Int) × (A6 Int)) := (LQ.seq (Par.q powersP) (LQ.skip (LQ.const (.ptr 0 0)) (LQ.skip (LQ.const (.ptr 1 0)) (LQ.seq (Par.q intP) (LQ.seq (LP.q (a6L (LP.one intP))) (LP.q (a6L (LP.one intP))))))))
noncomputable def p_ref_row_l1 : Pat := ⟨[0, 2, 3, 4], [.pub 0, .nilsl 0 (.powers [])]⟩
noncomputable def s_ref_row_l1 : List BS := [.cells 28 6, .cells 28 6]
noncomputable def q_ref_row_l1_e0 : LQ ((A6 Int) × (A6 Int)) := (LQ.skip (LQ.const (.ptr 0 0)) (LQ.skip (LQ.const (.ptr 1 0)) (LQ.seq (LP.q (a6L (LP.one intP))) (LP.q (a6L (LP.one intP))))))
noncomputable def p_ref_row_l1_e0 : Pat := ⟨[2, 3], []⟩
noncomputable def s_ref_row_l1_e0 : List BS := [.cells 28 6, .cells 28 6]
noncomputable def L_ref_row_l1 : St → Option LR := pieceL q_ref_row_l1 38 0 p_ref_row_l1 s_ref_row_l1 (fun o => LR.one o (fun r => (.exit 0, stP q_ref_row_l1_e0 38 4 p_ref_row_l1_e0 s_ref_row_l1_e0 r))) (fun a => iter (fun s : (List Power) × Int × (A6 Int) × (A6 Int) => (T_ref_row_l1 s.1 s.2.1 s.2.2.1 s.2.2.2).run) a)
noncomputable def E_ref_row_l1 : Exit → Option (End (((List Power) × Int × (A6 Int) × (A6 Int)) ⊕ ((A6 Int) × (A6 Int))))
  | .normal => some ⟨_, q_ref_row_l1, p_ref_row_l1, s_ref_row_l1, fun b => .inl b⟩
  | .exit 0 => some ⟨_, q_ref_row_l1_e0, p_ref_row_l1_e0, s_ref_row_l1_e0, fun b => .inr b⟩
  | _ => none
noncomputable def O_ref_row_l1 : (((List Power) × Int × (A6 Int) × (A6 Int)) ⊕ ((A6 Int) × (A6 Int))) → Exit × St
  | .inl b => (.normal, stP q_ref_row_l1 38 4 p_ref_row_l1 s_ref_row_l1 b)
  | .inr b => (.exit 0, stP q_ref_row_l1_e0 38 4 p_ref_row_l1_e0 s_ref_row_l1_e0 b)
theorem lok_ref_row_l1 : PieceOk (Y_ref_row).env 0 (sub C_ref_row [0, 1, 0, 1, 1]) L_ref_row_l1 :=
  loop_ok (Y := Y_ref_row) (A := A_ref_row_l1) hY_ref_row Facts.mix (root := C_ref_row) (L := 0) trivial (π := [0, 1, 0, 1, 1]) (c := loopB (sub C_ref_row [0, 1, 0, 1, 1])) (by kernel_rfl) q_ref_row_l1 38 4 p_ref_row_l1 s_ref_row_l1 E_ref_row_l1 (fun s => T_ref_row_l1 s.1 s.2.1 s.2.2.1 s.2.2.2) O_ref_row_l1 (by intro e d h b; unfold E_ref_row_l1 at h; split at h <;> first | (cases h; rfl) | cases h) (fun _ => rfl) (by intro r; exact (fun h => by cases h)) (fun o => LR.one o (fun r => (.exit 0, stP q_ref_row_l1_e0 38 4 p_ref_row_l1_e0 s_ref_row_l1_e0 r))) (by intro o Q h; obtain ⟨v, h1, h2⟩ := h; exact ⟨v, h1, h2⟩)
    (by rintro ⟨x0, x1, x2, x3⟩; kernel_rfl)
noncomputable def A_ref_row : Ann := ⟨[([0, 1, 0, 1, 1], L_ref_row_l1)], [], [], live_ref_row, []⟩
noncomputable def T_ref_row (a0 : (List Power)) : Tr ((A6 Int)) :=
  (.bind (sh_ref_row_l1 a0 (IntKind.i64.wrap (((a0.length : Nat) : Int) - 1)) (⟨0, 0, 0, 0, 0, 0⟩ : (A6 Int)) (⟨0, 0, 0, 0, 0, 0⟩ : (A6 Int))) fun v1 =>
  (.leaf v1.2))
noncomputable def sh_ref_row (a0 : (List Power)) : Option ((A6 Int)) := (T_ref_row a0).run
noncomputable def qa_ref_row : LQ ((List Power)) := (Par.q powersP)
noncomputable def qr_ref_row : LQ ((A6 Int)) := (Par.q (Par.ofLP (a6L (LP.one intP))))
noncomputable def F_ref_row : SpecT := specF 0 qa_ref_row 1 [] (fun s => T_ref_row s) default qr_ref_row 1 []
theorem ok_ref_row : SpecOk Try.prog 70 (F_ref_row).spec :=
  specF_ok (Y := Y_ref_row) (A := A_ref_row) hY_ref_row Facts.mix Try.func70 (c := C_ref_row) (by kernel_rfl) (Lc := 0) ⟨lok_ref_row_l1, trivial⟩ qa_ref_row 1 4 [] (fun s => T_ref_row s) default qr_ref_row 1 [] [] (by decide) (by kernel_rfl) (by rfl) (by decide) (by decide) (by rfl)
    (by rintro a0; kernel_rfl)

noncomputable def C_ref_Diff : Code := Try.f35.body.getD .skip
noncomputable def live_ref_Diff : List (List Nat) := [[0, 1], [5, 6], [5, 6, 7], [5, 6, 7, 13], [5, 6, 7, 13, 14], [5, 6, 7, 8, 13], [5, 6, 7, 8, 13, 22], [5, 6, 7, 13], [5, 6, 7, 13], [4]]
noncomputable def Y_ref_Diff : EnvT := ⟨Try.prog, lookT [(70, F_ref_row)]⟩
theorem hY_ref_Diff : (Y_ref_Diff).Ok := lookT_ok ⟨ok_ref_row, trivial⟩
noncomputable def T_ref_Diff_l1 (x0 : Int) (x1 : (A6 Int)) (x2 : (A6 Int)) (x3 : (List Power)) : Tr ((Int × (A6 Int) × (A6 Int) × (List Power)) ⊕ ((List Power))) :=
  (.ite (decide (x0 < 6))
    (.guard ((0 : Int) ≤ x0 ∧ (x0 : Int) < 6)
    (.guard ((0 : Int) ≤ x0 ∧ (x0 : Int) < 6)
    (.ite ((x1.get x0) != (x2.get x0))
      (.guard ((0 : Int) ≤ x0 ∧ (x0 : Int) < 6)
      (.guard ((Sl.len (.powers x3) + Sl.len (.powers [(⟨x0, x2.get x0⟩ : Power)])) * 16 ≤ 140737488355328)
      (.leaf (.inl (IntKind.i64.wrap (x0 + 1), x1, x2, x3 ++ [(⟨x0, x2.get x0⟩ : Power)])))))
      (.leaf (.inl (IntKind.i64.wrap (x0 + 1), x1, x2, x3))))))
    (.leaf (.inr x3)))
noncomputable def sh_ref_Diff_l1 (x0 : Int) (x1 : (A6 Int)) (x2 : (A6 Int)) (x3 : (List Power)) : Option ((List Power)) := iter (fun s : Int × (A6 Int) × (A6 Int) × (List Power) => (T_ref_Diff_l1 s.1 s.2.1 s.2.2.1 s.2.2.2).run) (x0, x1, x2, x3)
noncomputable def A_ref_Diff_l1 : Ann := ⟨[], [], [], live_ref_Diff, []⟩
noncomputable def q_ref_Diff_l1 : LQ (Int × (A6 Int) × (A6 Int) × (List Power)) := (LQ.skip (LQ.const (.ptr 0 0)) (LQ.skip (LQ.const (.ptr 1 0)) (LQ.skip (LQ.const (.own 2)) (LQ.seq (Par.q intP) (LQ.seq (LP.q (a6L (LP.one intP))) (LQ.seq (LP.q (a6L (LP.one intP))) (Par.q powersP)))))))
noncomputable def p_ref_Diff_l1 : Pat := ⟨[5, 6, 7, 13], [.nilown 7 45 (.powers [])]⟩
noncomputable def s_ref_Diff_l1 : List BS := [.cells 28 6, .cells 28 6, .rows 45]
noncomputable def q_ref_Diff_l1_e0 : LQ ((List Power)) := (LQ.skip (LQ.const (.own 0)) (Par.q powersP))
noncomputable def p_ref_Diff_l1_e0 : Pat := ⟨[7], [.nilown 7 45 (.powers [])]⟩
noncomputable def s_ref_Diff_l1_e0 : List BS := [.rows 45]
noncomputable def L_ref_Diff_l1 : St → Option LR := pieceL q_ref_Diff_l1 33 0 p_ref_Diff_l1 s_ref_Diff_l1 (fun o => LR.one o (fun r => (.exit 0, stP q_ref_Diff_l1_e0 33 7 p_ref_Diff_l1_e0 s_ref_Diff_l1_e0 r))) (fun a => iter (fun s : Int × (A6 Int) × (A6 Int) × (List Power) => (T_ref_Diff_l1 s.1 s.2.1 s.2.2.1 s.2.2.2).run) a)
noncomputable def E_ref_Diff_l1 : Exit → Option (End ((Int × (A6 Int) × (A6 Int) × (List Power)) ⊕ ((List Power))))
  | .normal => some ⟨_, q_ref_Diff_l1, p_ref_Diff_l1, s_ref_Diff_l1, fun b => .inl b⟩
  | .exit 0 => some ⟨_, q_ref_Diff_l1_e0, p_ref_Diff_l1_e0, s_ref_Diff_l1_e0, fun b => .inr b⟩
  | _ => none
noncomputable def O_ref_Diff_l1 : ((Int × (A6 Int) × (A6 Int) × (List Power)) ⊕ ((List Power))) → Exit × St
  | .inl b => (.normal, stP q_ref_Diff_l1 33 7 p_ref_Diff_l1 s_ref_Diff_l1 b)
  | .inr b => (.exit 0, stP q_ref_Diff_l1_e0 33 7 p_ref_Diff_l1_e0 s_ref_Diff_l1_e0 b)
theorem lok_ref_Diff_l1 : PieceOk (Y_ref_Diff).env 0 (sub C_ref_Diff [0, 1, 0, 1, 1, 1]) L_ref_Diff_l1 :=
  loop_ok (Y := Y_ref_Diff) (A := A_ref_Diff_l1) hY_ref_Diff Facts.mix (root := C_ref_Diff) (L := 0) trivial (π := [0, 1, 0, 1, 1, 1]) (c := loopB (sub C_ref_Diff [0, 1, 0, 1, 1, 1])) (by kernel_rfl) q_ref_Diff_l1 33 7 p_ref_Diff_l1 s_ref_Diff_l1 E_ref_Diff_l1 (fun s => T_ref_Diff_l1 s.1 s.2.1 s.2.2.1 s.2.2.2) O_ref_Diff_l1 (by intro e d h b; unfold E_ref_Diff_l1 at h; split at h <;> first | (cases h; rfl) | cases h) (fun _ => rfl) (by intro r; exact (fun h => by cases h)) (fun o => LR.one o (fun r => (.exit 0, stP q_ref_Diff_l1_e0 33 7 p_ref_Diff_l1_e0 s_ref_Diff_l1_e0 r))) (by intro o Q h; obtain ⟨v, h1, h2⟩ := h; exact ⟨v, h1, h2⟩)
    (by rintro ⟨x0, x1, x2, x3⟩; kernel_rfl)
noncomputable def A_ref_Diff : Ann := ⟨[([0, 1, 0, 1, 1, 1], L_ref_Diff_l1)], [], [], live_ref_Diff, []⟩
noncomputable def T_ref_Diff (a0 : (List Power)) (a1 : (List Power)) : Tr ((List Power)) :=
  (.bind (sh_ref_row a0) fun v1 =>
  (.bind (sh_ref_row a1) fun v2 =>
  (.bind (sh_ref_Diff_l1 0 v1 v2 []) fun v3 =>
  (.leaf v3))))
noncomputable def sh_ref_Diff (a0 : (List Power)) (a1 : (List Power)) : Option ((List Power)) := (T_ref_Diff a0 a1).run
noncomputable def qa_ref_Diff : LQ ((List Power) × (List Power)) := (LQ.seq (Par.q powersP) (Par.q powersP))
noncomputable def qr_ref_Diff : LQ ((List Power)) := (Par.q powersP)
noncomputable def F_ref_Diff : SpecT := specF 0 qa_ref_Diff 2 [] (fun s => T_ref_Diff s.1 s.2) default qr_ref_Diff 1 []
theorem ok_ref_Diff : SpecOk Try.prog 35 (F_ref_Diff).spec :=
  specF_ok (Y := Y_ref_Diff) (A := A_ref_Diff) hY_ref_Diff Facts.mix Try.func35 (c := C_ref_Diff) (by kernel_rfl) (Lc := 0) ⟨lok_ref_Diff_l1, trivial⟩ qa_ref_Diff 2 7 [] (fun s => T_ref_Diff s.1 s.2) default qr_ref_Diff 1 [] [.pub 4] (by decide) (by kernel_rfl) (by rfl) (by decide) (by decide) (by rfl)
    (by rintro ⟨a0, a1⟩; kernel_rfl)

noncomputable def C_ref_Apply : Code := Try.f37.body.getD .skip
noncomputable def live_ref_Apply : List (List Nat) := [[0, 1], [1, 5], [5, 12, 13, 14], [5, 12, 13, 14, 15], [5, 7, 12, 13, 14], [5, 7, 12, 13, 14, 25], [5, 12, 13, 14], [5, 12, 13, 14], [5, 8], [5, 8, 32], [5, 8, 32, 33], [5, 8, 9, 32], [5, 8, 9, 32, 38], [5, 8, 32], [5, 8, 32], [4]]
noncomputable def Y_ref_Apply : EnvT := ⟨Try.prog, lookT [(70, F_ref_row)]⟩
theorem hY_ref_Apply : (Y_ref_Apply).Ok := lookT_ok ⟨ok_ref_row, trivial⟩
noncomputable def T_ref_Apply_l1 (x0 : (List Power)) (x1 : Int) (x2 : Int) (x3 : (A6 Int)) : Tr (((List Power) × Int × Int × (A6 Int)) ⊕ ((A6 Int))) :=
  (.ite (decide (x2 < x1))
    (.guard ((0 : Int) ≤ x2 ∧ x2 < ((Sl.len (.powers x0) : Nat) : Int))
    (.ite ((decide (((x0.getD x2.toNat default).V) ≥ 0)) && (decide (((x0.getD x2.toNat default).V) < 6)))
      (.guard ((0 : Int) ≤ ((x0.getD x2.toNat default).V) ∧ (((x0.getD x2.toNat default).V) : Int) < 6)
      (.leaf (.inl (x0, x1, IntKind.i64.wrap (x2 + 1), (x3.set ((x0.getD x2.toNat default).V) ((x0.getD x2.toNat default).N))))))
      (.leaf (.inl (x0, x1, IntKind.i64.wrap (x2 + 1), x3)))))
    (.leaf (.inr x3)))
noncomputable def sh_ref_Apply_l1 (x0 : (List Power)) (x1 : Int) (x2 : Int) (x3 : (A6 Int)) : Option ((A6 Int)) := iter (fun s : (List Power) × Int × Int × (A6 Int) => (T_ref_Apply_l1 s.1 s.2.1 s.2.2.1 s.2.2.2).run) (x0, x1, x2, x3)
noncomputable def A_ref_Apply_l1 : Ann := ⟨[], [], [], live_ref_Apply, []⟩
noncomputable def q_ref_Apply_l1 : LQ ((List Power) × Int × Int × (A6 Int)) := (LQ.skip (LQ.const (.ptr 0 0)) (LQ.seq (Par.q powersP) (LQ.seq (Par.q intP) (LQ.seq (Par.q intP) (LP.q (a6L (LP.one intP)))))))
noncomputable def p_ref_Apply_l1 : Pat := ⟨[5, 12, 13, 14], [.pub 12, .nilsl 12 (.powers [])]⟩
noncomputable def s_ref_Apply_l1 : List BS := [.cells 28 6]
noncomputable def q_ref_Apply_l1_e0 : LQ ((A6 Int)) := (LQ.skip (LQ.const (.ptr 0 0)) (LP.q (a6L (LP.one intP))))
noncomputable def p_ref_Apply_l1_e0 : Pat := ⟨[5], []⟩
noncomputable def s_ref_Apply_l1_e0 : List BS := [.cells 28 6]
noncomputable def L_ref_Apply_l1 : St → Option LR := pieceL q_ref_Apply_l1 49 0 p_ref_Apply_l1 s_ref_Apply_l1 (fun o => LR.one o (fun r => (.exit 0, stP q_ref_Apply_l1_e0 49 6 p_ref_Apply_l1_e0 s_ref_Apply_l1_e0 r))) (fun a => iter (fun s : (List Power) × Int × Int × (A6 Int) => (T_ref_Apply_l1 s.1 s.2.1 s.2.2.1 s.2.2.2).run) a)
noncomputable def E_ref_Apply_l1 : Exit → Option (End (((List Power) × Int × Int × (A6 Int)) ⊕ ((A6 Int))))
  | .normal => some ⟨_, q_ref_Apply_l1, p_ref_Apply_l1, s_ref_Apply_l1, fun b => .inl b⟩
  | .exit 0 => some ⟨_, q_ref_Apply_l1_e0, p_ref_Apply_l1_e0, s_ref_Apply_l1_e0, fun b => .inr b⟩
  | _ => none
noncomputable def O_ref_Apply_l1 : (((List Power) × Int × Int × (A6 Int)) ⊕ ((A6 Int))) → Exit × St
  | .inl b => (.normal, stP q_ref_Apply_l1 49 6 p_ref_Apply_l1 s_ref_Apply_l1 b)
  | .inr b => (.exit 0, stP q_ref_Apply_l1_e0 49 6 p_ref_Apply_l1_e0 s_ref_Apply_l1_e0 b)
theorem lok_ref_Apply_l1 : PieceOk (Y_ref_Apply).env 0 (sub C_ref_Apply [0, 1, 0, 1, 1]) L_ref_Apply_l1 :=
  loop_ok (Y := Y_ref_Apply) (A := A_ref_Apply_l1) hY_ref_Apply Facts.mix (root := C_ref_Apply) (L := 0) trivial (π := [0, 1, 0, 1, 1]) (c := loopB (sub C_ref_Apply [0, 1, 0, 1, 1])) (by kernel_rfl) q_ref_Apply_l1 49 6 p_ref_Apply_l1 s_ref_Apply_l1 E_ref_Apply_l1 (fun s => T_ref_Apply_l1 s.1 s.2.1 s.2.2.1 s.2.2.2) O_ref_Apply_l1 (by intro e d h b; unfold E_ref_Apply_l1 at h; split at h <;> first | (cases h; rfl) | cases h) (fun _ => rfl) (by intro r; exact (fun h => by cases h)) (fun o => LR.one o (fun r => (.exit 0, stP q_ref_Apply_l1_e0 49 6 p_ref_Apply_l1_e0 s_ref_Apply_l1_e0 r))) (by intro o Q h; obtain ⟨v, h1, h2⟩ := h; exact ⟨v, h1, h2⟩)
    (by rintro ⟨x0, x1, x2, x3⟩; kernel_rfl)
noncomputable def T_ref_Apply_l2 (x0 : Int) (x1 : (A6 Int)) (x2 : (List Power)) : Tr ((Int × (A6 Int) × (List Power)) ⊕ ((List Power))) :=
  (.ite (decide (x0 < 6))
    (.guard ((0 : Int) ≤ x0 ∧ (x0 : Int) < 6)
    (.ite (decide ((x1.get x0) > 0))
      (.guard ((0 : Int) ≤ x0 ∧ (x0 : Int) < 6)
      (.guard ((Sl.len (.powers x2) + Sl.len (.powers [(⟨x0, x1.get x0⟩ : Power)])) * 16 ≤ 140737488355328)
      (.leaf (.inl (IntKind.i64.wrap (x0 + 1), x1, x2 ++ [(⟨x0, x1.get x0⟩ : Power)])))))
      (.leaf (.inl (IntKind.i64.wrap (x0 + 1), x1, x2)))))
    (.leaf (.inr x2)))
noncomputable def sh_ref_Apply_l2 (x0 : Int) (x1 : (A6 Int)) (x2 : (List Power)) : Option ((List Power)) := iter (fun s : Int × (A6 Int) × (List Power) => (T_ref_Apply_l2 s.1 s.2.1 s.2.2).run) (x0, x1, x2)
noncomputable def A_ref_Apply_l2 : Ann := ⟨[], [], [], live_ref_Apply, []⟩
noncomputable def q_ref_Apply_l2 : LQ (Int × (A6 Int) × (List Power)) := (LQ.skip (LQ.const (.ptr 0 0)) (LQ.skip (LQ.const (.own 1)) (LQ.seq (Par.q intP) (LQ.seq (LP.q (a6L (LP.one intP))) (Par.q powersP)))))
noncomputable def p_ref_Apply_l2 : Pat := ⟨[5, 8, 32], [.nilown 8 45 (.powers [])]⟩
noncomputable def s_ref_Apply_l2 : List BS := [.cells 28 6, .rows 45]
noncomputable def q_ref_Apply_l2_e0 : LQ ((List Power)) := (LQ.skip (LQ.const (.own 0)) (Par.q powersP))
noncomputable def p_ref_Apply_l2_e0 : Pat := ⟨[8], [.nilown 8 45 (.powers [])]⟩
noncomputable def s_ref_Apply_l2_e0 : List BS := [.rows 45]
noncomputable def L_ref_Apply_l2 : St → Option LR := pieceL q_ref_Apply_l2 49 0 p_ref_Apply_l2 s_ref_Apply_l2 (fun o => LR.one o (fun r => (.exit 2, stP q_ref_Apply_l2_e0 49 6 p_ref_Apply_l2_e0 s_ref_Apply_l2_e0 r))) (fun a => iter (fun s : Int × (A6 Int) × (List Power) => (T_ref_Apply_l2 s.1 s.2.1 s.2.2).run) a)
noncomputable def E_ref_Apply_l2 : Exit → Option (End ((Int × (A6 Int) × (List Power)) ⊕ ((List Power))))
  | .normal => some ⟨_, q_ref_Apply_l2, p_ref_Apply_l2, s_ref_Apply_l2, fun b => .inl b⟩
  | .exit 2 => some ⟨_, q_ref_Apply_l2_e0, p_ref_Apply_l2_e0, s_ref_Apply_l2_e0, fun b => .inr b⟩
  | _ => none
noncomputable def O_ref_Apply_l2 : ((Int × (A6 Int) × (List Power)) ⊕ ((List Power))) → Exit × St
  | .inl b => (.normal, stP q_ref_Apply_l2 49 6 p_ref_Apply_l2 s_ref_Apply_l2 b)
  | .inr b => (.exit 2, stP q_ref_Apply_l2_e0 49 6 p_ref_Apply_l2_e0 s_ref_Apply_l2_e0 b)
theorem lok_ref_Apply_l2 : PieceOk (Y_ref_Apply).env 0 (sub C_ref_Apply [0, 1, 0, 1, 1, 1, 1]) L_ref_Apply_l2 :=
  loop_ok (Y := Y_ref_Apply) (A := A_ref_Apply_l2) hY_ref_Apply Facts.mix (root := C_ref_Apply) (L := 0) trivial (π := [0, 1, 0, 1, 1, 1, 1]) (c := loopB (sub C_ref_Apply [0, 1, 0, 1, 1, 1, 1])) (by kernel_rfl) q_ref_Apply_l2 49 6 p_ref_Apply_l2 s_ref_Apply_l2 E_ref_Apply_l2 (fun s => T_ref_Apply_l2 s.1 s.2.1 s.2.2) O_ref_Apply_l2 (by intro e d h b; unfold E_ref_Apply_l2 at h; split at h <;> first | (cases h; rfl) | cases h) (fun _ => rfl) (by intro r; exact (fun h => by cases h)) (fun o => LR.one o (fun r => (.exit 2, stP q_ref_Apply_l2_e0 49 6 p_ref_Apply_l2_e0 s_ref_Apply_l2_e0 r))) (by intro o Q h; obtain ⟨v, h1, h2⟩ := h; exact ⟨v, h1, h2⟩)
    (by rintro ⟨x0, x1, x2⟩; kernel_rfl)
noncomputable def A_ref_Apply : Ann := ⟨[([0, 1, 0, 1, 1], L_ref_Apply_l1), ([0, 1, 0, 1, 1, 1, 1], L_ref_Apply_l2)], [], [], live_ref_Apply, []⟩
noncomputable def T_ref_Apply (a0 : (List Power)) (a1 : (List Power)) : Tr ((List Power)) :=
  (.bind (sh_ref_row a0) fun v1 =>
  (.bind (sh_ref_Apply_l1 a1 ((a1.length : Nat) : Int) 0 v1) fun v2 =>
  (.bind (sh_ref_Apply_l2 0 v2 []) fun v3 =>
  (.leaf v3))))
noncomputable def sh_ref_Apply (a0 : (List Power)) (a1 : (List Power)) : Option ((List Power)) := (T_ref_Apply a0 a1).run
noncomputable def qa_ref_Apply : LQ ((List Power) × (List Power)) := (LQ.seq (Par.q powersP) (Par.q powersP))
noncomputable def qr_ref_Apply : LQ ((List Power)) := (Par.q powersP)
noncomputable def F_ref_Apply : SpecT := specF 0 qa_ref_Apply 2 [] (fun s => T_ref_Apply s.1 s.2) default qr_ref_Apply 1 []
theorem ok_ref_Apply : SpecOk Try.prog 37 (F_ref_Apply).spec :=
  specF_ok (Y := Y_ref_Apply) (A := A_ref_Apply) hY_ref_Apply Facts.mix Try.func37 (c := C_ref_Apply) (by kernel_rfl) (Lc := 0) ⟨lok_ref_Apply_l1, lok_ref_Apply_l2, trivial⟩ qa_ref_Apply 2 6 [] (fun s => T_ref_Apply s.1 s.2) default qr_ref_Apply 1 [] [.pub 4] (by decide) (by kernel_rfl) (by rfl) (by decide) (by decide) (by rfl)
    (by rintro ⟨a0, a1⟩; kernel_rfl)

noncomputable def C_ref_AllOf : Code := Try.f39.body.getD .skip
noncomputable def live_ref_AllOf : List (List Nat) := [[0], [0, 3], [3, 6, 7, 8], [3, 6, 7, 8, 9], [3, 5, 6, 7, 8], [3, 6, 7, 8], [3, 6, 7, 8], [2]]
noncomputable def Y_ref_AllOf : EnvT := ⟨Try.prog, lookT []⟩
theorem hY_ref_AllOf : (Y_ref_AllOf).Ok := lookT_ok trivial
noncomputable def T_ref_AllOf_l1 (x0 : Int) (x1 : (List Power)) (x2 : Int) (x3 : Int) : Tr ((Int × (List Power) × Int × Int) ⊕ (Int)) :=
  (.ite (decide (x3 < x2))
    (.guard ((0 : Int) ≤ x3 ∧ x3 < ((Sl.len (.powers x1) : Nat) : Int))
    (.leaf (.inl (IntKind.i64.wrap (x0 + ((x1.getD x3.toNat default).N)), x1, x2, IntKind.i64.wrap (x3 + 1)))))
    (.leaf (.inr x0)))
noncomputable def sh_ref_AllOf_l1 (x0 : Int) (x1 : (List Power)) (x2 : Int) (x3 : Int) : Option (Int) := iter (fun s : Int × (List Power) × Int × Int => (T_ref_AllOf_l1 s.1 s.2.1 s.2.2.1 s.2.2.2).run) (x0, x1, x2, x3)
noncomputable def A_ref_AllOf_l1 : Ann := ⟨[], [], [], live_ref_AllOf, []⟩
noncomputable def q_ref_AllOf_l1 : LQ (Int × (List Power) × Int × Int) := (LQ.seq (Par.q intP) (LQ.seq (Par.q powersP) (LQ.seq (Par.q intP) (Par.q intP))))
noncomputable def p_ref_AllOf_l1 : Pat := ⟨[3, 6, 7, 8], [.pub 6, .nilsl 6 (.powers [])]⟩
noncomputable def s_ref_AllOf_l1 : List BS := []
noncomputable def q_ref_AllOf_l1_e0 : LQ (Int) := (Par.q intP)
noncomputable def p_ref_AllOf_l1_e0 : Pat := ⟨[3], []⟩
noncomputable def s_ref_AllOf_l1_e0 : List BS := []
noncomputable def L_ref_AllOf_l1 : St → Option LR := pieceL q_ref_AllOf_l1 18 0 p_ref_AllOf_l1 s_ref_AllOf_l1 (fun o => LR.one o (fun r => (.exit 0, stP q_ref_AllOf_l1_e0 18 3 p_ref_AllOf_l1_e0 s_ref_AllOf_l1_e0 r))) (fun a => iter (fun s : Int × (List Power) × Int × Int => (T_ref_AllOf_l1 s.1 s.2.1 s.2.2.1 s.2.2.2).run) a)
noncomputable def E_ref_AllOf_l1 : Exit → Option (End ((Int × (List Power) × Int × Int) ⊕ (Int)))
  | .normal => some ⟨_, q_ref_AllOf_l1, p_ref_AllOf_l1, s_ref_AllOf_l1, fun b => .inl b⟩
  | .exit 0 => some ⟨_, q_ref_AllOf_l1_e0, p_ref_AllOf_l1_e0, s_ref_AllOf_l1_e0, fun b => .inr b⟩
  | _ => none
noncomputable def O_ref_AllOf_l1 : ((Int × (List Power) × Int × Int) ⊕ (Int)) → Exit × St
  | .inl b => (.normal, stP q_ref_AllOf_l1 18 3 p_ref_AllOf_l1 s_ref_AllOf_l1 b)
  | .inr b => (.exit 0, stP q_ref_AllOf_l1_e0 18 3 p_ref_AllOf_l1_e0 s_ref_AllOf_l1_e0 b)
theorem lok_ref_AllOf_l1 : PieceOk (Y_ref_AllOf).env 0 (sub C_ref_AllOf [0, 1, 0, 1, 1]) L_ref_AllOf_l1 :=
  loop_ok (Y := Y_ref_AllOf) (A := A_ref_AllOf_l1) hY_ref_AllOf Facts.mix (root := C_ref_AllOf) (L := 0) trivial (π := [0, 1, 0, 1, 1]) (c := loopB (sub C_ref_AllOf [0, 1, 0, 1, 1])) (by kernel_rfl) q_ref_AllOf_l1 18 3 p_ref_AllOf_l1 s_ref_AllOf_l1 E_ref_AllOf_l1 (fun s => T_ref_AllOf_l1 s.1 s.2.1 s.2.2.1 s.2.2.2) O_ref_AllOf_l1 (by intro e d h b; unfold E_ref_AllOf_l1 at h; split at h <;> first | (cases h; rfl) | cases h) (fun _ => rfl) (by intro r; exact (fun h => by cases h)) (fun o => LR.one o (fun r => (.exit 0, stP q_ref_AllOf_l1_e0 18 3 p_ref_AllOf_l1_e0 s_ref_AllOf_l1_e0 r))) (by intro o Q h; obtain ⟨v, h1, h2⟩ := h; exact ⟨v, h1, h2⟩)
    (by rintro ⟨x0, x1, x2, x3⟩; kernel_rfl)
noncomputable def A_ref_AllOf : Ann := ⟨[([0, 1, 0, 1, 1], L_ref_AllOf_l1)], [], [], live_ref_AllOf, []⟩
noncomputable def T_ref_AllOf (a0 : (List Power)) : Tr (Int) :=
  (.bind (sh_ref_AllOf_l1 0 a0 ((a0.length : Nat) : Int) 0) fun v1 =>
  (.leaf v1))
noncomputable def sh_ref_AllOf (a0 : (List Power)) : Option (Int) := (T_ref_AllOf a0).run
noncomputable def qa_ref_AllOf : LQ ((List Power)) := (Par.q powersP)
noncomputable def qr_ref_AllOf : LQ (Int) := (Par.q intP)
noncomputable def F_ref_AllOf : SpecT := specF 0 qa_ref_AllOf 1 [] (fun s => T_ref_AllOf s) default qr_ref_AllOf 1 []
theorem ok_ref_AllOf : SpecOk Try.prog 39 (F_ref_AllOf).spec :=
  specF_ok (Y := Y_ref_AllOf) (A := A_ref_AllOf) hY_ref_AllOf Facts.mix Try.func39 (c := C_ref_AllOf) (by kernel_rfl) (Lc := 0) ⟨lok_ref_AllOf_l1, trivial⟩ qa_ref_AllOf 1 3 [] (fun s => T_ref_AllOf s) default qr_ref_AllOf 1 [] [] (by decide) (by kernel_rfl) (by rfl) (by decide) (by decide) (by rfl)
    (by rintro a0; kernel_rfl)

noncomputable def C_ref_SamePowers : Code := Try.f31.body.getD .skip
noncomputable def live_ref_SamePowers : List (List Nat) := [[0, 1], [0, 1, 10], [4], [0, 1, 12, 13], [0, 1, 12, 13, 14], [0, 1, 5, 12, 13], [0, 1, 12, 13, 24], [4], [0, 1, 12, 13], [4]]
noncomputable def Y_ref_SamePowers : EnvT := ⟨Try.prog, lookT []⟩
theorem hY_ref_SamePowers : (Y_ref_SamePowers).Ok := lookT_ok trivial
noncomputable def T_ref_SamePowers_l1 (x0 : (List Power)) (x1 : (List Power)) (x2 : Int) (x3 : Int) : Tr (((List Power) × (List Power) × Int × Int) ⊕ ((Bool) ⊕ (Unit))) :=
  (.ite (decide (x3 < x2))
    (.guard ((0 : Int) ≤ x3 ∧ x3 < ((Sl.len (.powers x0) : Nat) : Int))
    (.guard ((0 : Int) ≤ x3 ∧ x3 < ((Sl.len (.powers x1) : Nat) : Int))
    (.ite (!((((x0.getD x3.toNat default).V) == ((x1.getD x3.toNat default).V)) && ((((x0.getD x3.toNat default).N) == ((x1.getD x3.toNat default).N)) && true)))
      (.leaf (.inr (.inl false)))
      (.leaf (.inl (x0, x1, x2, IntKind.i64.wrap (x3 + 1)))))))
    (.leaf (.inr (.inr ()))))
noncomputable def sh_ref_SamePowers_l1 (x0 : (List Power)) (x1 : (List Power)) (x2 : Int) (x3 : Int) : Option ((Bool) ⊕ (Unit)) := iter (fun s : (List Power) × (List Power) × Int × Int => (T_ref_SamePowers_l1 s.1 s.2.1 s.2.2.1 s.2.2.2).run) (x0, x1, x2, x3)
noncomputable def A_ref_SamePowers_l1 : Ann := ⟨[], [], [], live_ref_SamePowers, []⟩
noncomputable def q_ref_SamePowers_l1 : LQ ((List Power) × (List Power) × Int × Int) := (LQ.seq (Par.q powersP) (LQ.seq (Par.q powersP) (LQ.seq (Par.q intP) (Par.q intP))))
noncomputable def p_ref_SamePowers_l1 : Pat := ⟨[0, 1, 12, 13], [.pub 0, .nilsl 0 (.powers []), .pub 1, .nilsl 1 (.powers [])]⟩
noncomputable def s_ref_SamePowers_l1 : List BS := []
noncomputable def q_ref_SamePowers_l1_e0 : LQ (Bool) := (Par.q boolP)
noncomputable def p_ref_SamePowers_l1_e0 : Pat := ⟨[4], []⟩
noncomputable def s_ref_SamePowers_l1_e0 : List BS := []
noncomputable def q_ref_SamePowers_l1_e1 : LQ (Unit) := LQ.nil
noncomputable def p_ref_SamePowers_l1_e1 : Pat := ⟨[], []⟩
noncomputable def s_ref_SamePowers_l1_e1 : List BS := []
noncomputable def L_ref_SamePowers_l1 : St → Option LR := pieceL q_ref_SamePowers_l1 26 0 p_ref_SamePowers_l1 s_ref_SamePowers_l1 (fun o => LR.two o (fun r => (.ret, stP q_ref_SamePowers_l1_e0 26 2 p_ref_SamePowers_l1_e0 s_ref_SamePowers_l1_e0 r)) (fun r => (.exit 0, stP q_ref_SamePowers_l1_e1 26 2 p_ref_SamePowers_l1_e1 s_ref_SamePowers_l1_e1 r))) (fun a => iter (fun s : (List Power) × (List Power) × Int × Int => (T_ref_SamePowers_l1 s.1 s.2.1 s.2.2.1 s.2.2.2).run) a)
noncomputable def E_ref_SamePowers_l1 : Exit → Option (End (((List Power) × (List Power) × Int × Int) ⊕ ((Bool) ⊕ (Unit))))
  | .normal => some ⟨_, q_ref_SamePowers_l1, p_ref_SamePowers_l1, s_ref_SamePowers_l1, fun b => .inl b⟩
  | .ret => some ⟨_, q_ref_SamePowers_l1_e0, p_ref_SamePowers_l1_e0, s_ref_SamePowers_l1_e0, fun b => .inr (.inl b)⟩
  | .exit 0 => some ⟨_, q_ref_SamePowers_l1_e1, p_ref_SamePowers_l1_e1, s_ref_SamePowers_l1_e1, fun b => .inr (.inr b)⟩
  | _ => none
noncomputable def O_ref_SamePowers_l1 : (((List Power) × (List Power) × Int × Int) ⊕ ((Bool) ⊕ (Unit))) → Exit × St
  | .inl b => (.normal, stP q_ref_SamePowers_l1 26 2 p_ref_SamePowers_l1 s_ref_SamePowers_l1 b)
  | .inr (.inl b) => (.ret, stP q_ref_SamePowers_l1_e0 26 2 p_ref_SamePowers_l1_e0 s_ref_SamePowers_l1_e0 b)
  | .inr (.inr b) => (.exit 0, stP q_ref_SamePowers_l1_e1 26 2 p_ref_SamePowers_l1_e1 s_ref_SamePowers_l1_e1 b)
theorem lok_ref_SamePowers_l1 : PieceOk (Y_ref_SamePowers).env 0 (sub C_ref_SamePowers [0, 1, 0, 1, 1]) L_ref_SamePowers_l1 :=
  loop_ok (Y := Y_ref_SamePowers) (A := A_ref_SamePowers_l1) hY_ref_SamePowers Facts.mix (root := C_ref_SamePowers) (L := 0) trivial (π := [0, 1, 0, 1, 1]) (c := loopB (sub C_ref_SamePowers [0, 1, 0, 1, 1])) (by kernel_rfl) q_ref_SamePowers_l1 26 2 p_ref_SamePowers_l1 s_ref_SamePowers_l1 E_ref_SamePowers_l1 (fun s => T_ref_SamePowers_l1 s.1 s.2.1 s.2.2.1 s.2.2.2) O_ref_SamePowers_l1 (by intro e d h b; unfold E_ref_SamePowers_l1 at h; split at h <;> first | (cases h; rfl) | cases h) (fun _ => rfl) (by intro r; cases r <;> exact (fun h => by cases h)) (fun o => LR.two o (fun r => (.ret, stP q_ref_SamePowers_l1_e0 26 2 p_ref_SamePowers_l1_e0 s_ref_SamePowers_l1_e0 r)) (fun r => (.exit 0, stP q_ref_SamePowers_l1_e1 26 2 p_ref_SamePowers_l1_e1 s_ref_SamePowers_l1_e1 r))) (by intro o Q h; exact Or.elim h (fun ⟨v, h1, h2⟩ => ⟨_, h1, h2⟩) (fun ⟨v, h1, h2⟩ => ⟨_, h1, h2⟩))
    (by rintro ⟨x0, x1, x2, x3⟩; kernel_rfl)
noncomputable def A_ref_SamePowers : Ann := ⟨[([0, 1, 0, 1, 1], L_ref_SamePowers_l1)], [], [], live_ref_SamePowers, []⟩
noncomputable def T_ref_SamePowers (a0 : (List Power)) (a1 : (List Power)) : Tr (Bool) :=
  (.ite (((a0.length : Nat) : Int) != ((a1.length : Nat) : Int))
    (.leaf false)
    (.two (sh_ref_SamePowers_l1 a0 a1 ((a0.length : Nat) : Int) 0) (fun v1 =>
      (.leaf v1)) (fun v2 =>
      (.leaf true))))
noncomputable def sh_ref_SamePowers (a0 : (List Power)) (a1 : (List Power)) : Option (Bool) := (T_ref_SamePowers a0 a1).run
noncomputable def qa_ref_SamePowers : LQ ((List Power) × (List Power)) := (LQ.seq (Par.q powersP) (Par.q powersP))
noncomputable def qr_ref_SamePowers : LQ (Bool) := (Par.q boolP)
noncomputable def F_ref_SamePowers : SpecT := specF 0 qa_ref_SamePowers 2 [] (fun s => T_ref_SamePowers s.1 s.2) default qr_ref_SamePowers 1 []
theorem ok_ref_SamePowers : SpecOk Try.prog 31 (F_ref_SamePowers).spec :=
  specF_ok (Y := Y_ref_SamePowers) (A := A_ref_SamePowers) hY_ref_SamePowers Facts.mix Try.func31 (c := C_ref_SamePowers) (by kernel_rfl) (Lc := 0) ⟨lok_ref_SamePowers_l1, trivial⟩ qa_ref_SamePowers 2 2 [] (fun s => T_ref_SamePowers s.1 s.2) default qr_ref_SamePowers 1 [] [] (by decide) (by kernel_rfl) (by rfl) (by decide) (by decide) (by rfl)
    (by rintro ⟨a0, a1⟩; kernel_rfl)

noncomputable def C_ref_SameNumbers : Code := Try.f45.body.getD .skip
noncomputable def live_ref_SameNumbers : List (List Nat) := [[0, 1], [0, 1, 10], [4], [0, 1, 12, 13], [0, 1, 12, 13, 14], [0, 1, 5, 12, 13], [0, 1, 12, 13, 24], [4], [0, 1, 12, 13], [4]]
noncomputable def Y_ref_SameNumbers : EnvT := ⟨Try.prog, lookT []⟩
theorem hY_ref_SameNumbers : (Y_ref_SameNumbers).Ok := lookT_ok trivial
noncomputable def T_ref_SameNumbers_l1 (x0 : (List Int)) (x1 : (List Int)) (x2 : Int) (x3 : Int) : Tr (((List Int) × (List Int) × Int × Int) ⊕ ((Bool) ⊕ (Unit))) :=
  (.ite (decide (x3 < x2))
    (.guard ((0 : Int) ≤ x3 ∧ x3 < ((Sl.len (.ints x0) : Nat) : Int))
    (.guard ((0 : Int) ≤ x3 ∧ x3 < ((Sl.len (.ints x1) : Nat) : Int))
    (.ite ((x0.getD x3.toNat 0) != (x1.getD x3.toNat 0))
      (.leaf (.inr (.inl false)))
      (.leaf (.inl (x0, x1, x2, IntKind.i64.wrap (x3 + 1)))))))
    (.leaf (.inr (.inr ()))))
noncomputable def sh_ref_SameNumbers_l1 (x0 : (List Int)) (x1 : (List Int)) (x2 : Int) (x3 : Int) : Option ((Bool) ⊕ (Unit)) := iter (fun s : (List Int) × (List Int) × Int × Int => (T_ref_SameNumbers_l1 s.1 s.2.1 s.2.2.1 s.2.2.2).run) (x0, x1, x2, x3)
noncomputable def A_ref_SameNumbers_l1 : Ann := ⟨[], [], [], live_ref_SameNumbers, []⟩
noncomputable def q_ref_SameNumbers_l1 : LQ ((List Int) × (List Int) × Int × Int) := (LQ.seq (Par.q intsP) (LQ.seq (Par.q intsP) (LQ.seq (Par.q intP) (Par.q intP))))
noncomputable def p_ref_SameNumbers_l1 : Pat := ⟨[0, 1, 12, 13], [.pub 0, .nilsl 0 (.ints []), .pub 1, .nilsl 1 (.ints [])]⟩
noncomputable def s_ref_SameNumbers_l1 : List BS := []
noncomputable def q_ref_SameNumbers_l1_e0 : LQ (Bool) := (Par.q boolP)
noncomputable def p_ref_SameNumbers_l1_e0 : Pat := ⟨[4], []⟩
noncomputable def s_ref_SameNumbers_l1_e0 : List BS := []
noncomputable def q_ref_SameNumbers_l1_e1 : LQ (Unit) := LQ.nil
noncomputable def p_ref_SameNumbers_l1_e1 : Pat := ⟨[], []⟩
noncomputable def s_ref_SameNumbers_l1_e1 : List BS := []
noncomputable def L_ref_SameNumbers_l1 : St → Option LR := pieceL q_ref_SameNumbers_l1 26 0 p_ref_SameNumbers_l1 s_ref_SameNumbers_l1 (fun o => LR.two o (fun r => (.ret, stP q_ref_SameNumbers_l1_e0 26 2 p_ref_SameNumbers_l1_e0 s_ref_SameNumbers_l1_e0 r)) (fun r => (.exit 0, stP q_ref_SameNumbers_l1_e1 26 2 p_ref_SameNumbers_l1_e1 s_ref_SameNumbers_l1_e1 r))) (fun a => iter (fun s : (List Int) × (List Int) × Int × Int => (T_ref_SameNumbers_l1 s.1 s.2.1 s.2.2.1 s.2.2.2).run) a)
noncomputable def E_ref_SameNumbers_l1 : Exit → Option (End (((List Int) × (List Int) × Int × Int) ⊕ ((Bool) ⊕ (Unit))))
  | .normal => some ⟨_, q_ref_SameNumbers_l1, p_ref_SameNumbers_l1, s_ref_SameNumbers_l1, fun b => .inl b⟩
  | .ret => some ⟨_, q_ref_SameNumbers_l1_e0, p_ref_SameNumbers_l1_e0, s_ref_SameNumbers_l1_e0, fun b => .inr (.inl b)⟩
  | .exit 0 => some ⟨_, q_ref_SameNumbers_l1_e1, p_ref_SameNumbers_l1_e1, s_ref_SameNumbers_l1_e1, fun b => .inr (.inr b)⟩
  | _ => none
noncomputable def O_ref_SameNumbers_l1 : (((List Int) × (List Int) × Int × Int) ⊕ ((Bool) ⊕ (Unit))) → Exit × St
  | .inl b => (.normal, stP q_ref_SameNumbers_l1 26 2 p_ref_SameNumbers_l1 s_ref_SameNumbers_l1 b)
  | .inr (.inl b) => (.ret, stP q_ref_SameNumbers_l1_e0 26 2 p_ref_SameNumbers_l1_e0 s_ref_SameNumbers_l1_e0 b)
  | .inr (.inr b) => (.exit 0, stP q_ref_SameNumbers_l1_e1 26 2 p_ref_SameNumbers_l1_e1 s_ref_SameNumbers_l1_e1 b)
theorem lok_ref_SameNumbers_l1 : PieceOk (Y_ref_SameNumbers).env 0 (sub C_ref_SameNumbers [0, 1, 0, 1, 1]) L_ref_SameNumbers_l1 :=
  loop_ok (Y := Y_ref_SameNumbers) (A := A_ref_SameNumbers_l1) hY_ref_SameNumbers Facts.mix (root := C_ref_SameNumbers) (L := 0) trivial (π := [0, 1, 0, 1, 1]) (c := loopB (sub C_ref_SameNumbers [0, 1, 0, 1, 1])) (by kernel_rfl) q_ref_SameNumbers_l1 26 2 p_ref_SameNumbers_l1 s_ref_SameNumbers_l1 E_ref_SameNumbers_l1 (fun s => T_ref_SameNumbers_l1 s.1 s.2.1 s.2.2.1 s.2.2.2) O_ref_SameNumbers_l1 (by intro e d h b; unfold E_ref_SameNumbers_l1 at h; split at h <;> first | (cases h; rfl) | cases h) (fun _ => rfl) (by intro r; cases r <;> exact (fun h => by cases h)) (fun o => LR.two o (fun r => (.ret, stP q_ref_SameNumbers_l1_e0 26 2 p_ref_SameNumbers_l1_e0 s_ref_SameNumbers_l1_e0 r)) (fun r => (.exit 0, stP q_ref_SameNumbers_l1_e1 26 2 p_ref_SameNumbers_l1_e1 s_ref_SameNumbers_l1_e1 r))) (by intro o Q h; exact Or.elim h (fun ⟨v, h1, h2⟩ => ⟨_, h1, h2⟩) (fun ⟨v, h1, h2⟩ => ⟨_, h1, h2⟩))
    (by rintro ⟨x0, x1, x2, x3⟩; kernel_rfl)
noncomputable def A_ref_SameNumbers : Ann := ⟨[([0, 1, 0, 1, 1], L_ref_SameNumbers_l1)], [], [], live_ref_SameNumbers, []⟩
noncomputable def T_ref_SameNumbers (a0 : (List Int)) (a1 : (List Int)) : Tr (Bool) :=
  (.ite (((a0.length : Nat) : Int) != ((a1.length : Nat) : Int))
    (.leaf false)
    (.two (sh_ref_SameNumbers_l1 a0 a1 ((a0.length : Nat) : Int) 0) (fun v1 =>
      (.leaf v1)) (fun v2 =>
      (.leaf true))))
noncomputable def sh_ref_SameNumbers (a0 : (List Int)) (a1 : (List Int)) : Option (Bool) := (T_ref_SameNumbers a0 a1).run
noncomputable def qa_ref_SameNumbers : LQ ((List Int) × (List Int)) := (LQ.seq (Par.q intsP) (Par.q intsP))
noncomputable def qr_ref_SameNumbers : LQ (Bool) := (Par.q boolP)
noncomputable def F_ref_SameNumbers : SpecT := specF 0 qa_ref_SameNumbers 2 [] (fun s => T_ref_SameNumbers s.1 s.2) default qr_ref_SameNumbers 1 []
theorem ok_ref_SameNumbers : SpecOk Try.prog 45 (F_ref_SameNumbers).spec :=
  specF_ok (Y := Y_ref_SameNumbers) (A := A_ref_SameNumbers) hY_ref_SameNumbers Facts.mix Try.func45 (c := C_ref_SameNumbers) (by kernel_rfl) (Lc := 0) ⟨lok_ref_SameNumbers_l1, trivial⟩ qa_ref_SameNumbers 2 2 [] (fun s => T_ref_SameNumbers s.1 s.2) default qr_ref_SameNumbers 1 [] [] (by decide) (by kernel_rfl) (by rfl) (by decide) (by decide) (by rfl)
    (by rintro ⟨a0, a1⟩; kernel_rfl)

noncomputable def C_keep_made : Code := Try.f40.body.getD .skip
noncomputable def live_keep_made : List (List Nat) := [[0], [0, 3], [0, 3, 4], [0, 3, 4, 13], [0, 3, 4], [0, 3, 4, 5], [0, 3, 4, 5, 22], [0, 3, 4], [2]]
noncomputable def Y_keep_made : EnvT := ⟨Try.prog, lookT [(71, F_keep_pick)]⟩
theorem hY_keep_made : (Y_keep_made).Ok := lookT_ok ⟨ok_keep_pick, trivial⟩
noncomputable def T_keep_made_l1 (x0 : (List Int)) (x1 : Int) (x2 : (List Power)) : Tr (((List Int) × Int × (List Power)) ⊕ ((List Power))) :=
  (.ite ((decide (x1 < 6)) && (decide (x1 < ((x0.length : Nat) : Int))))
    (.guard ((0 : Int) ≤ x1 ∧ x1 < ((Sl.len (.ints x0) : Nat) : Int))
    (.bind (sh_keep_pick (x0.getD x1.toNat 0) 4) fun v1 =>
    (.ite (decide (v1 > 0))
      (.guard ((Sl.len (.powers x2) + Sl.len (.powers [(⟨x1, v1⟩ : Power)])) * 16 ≤ 140737488355328)
      (.leaf (.inl (x0, IntKind.i64.wrap (x1 + 1), x2 ++ [(⟨x1, v1⟩ : Power)]))))
      (.leaf (.inl (x0, IntKind.i64.wrap (x1 + 1), x2))))))
    (.leaf (.inr x2)))
noncomputable def sh_keep_made_l1 (x0 : (List Int)) (x1 : Int) (x2 : (List Power)) : Option ((List Power)) := iter (fun s : (List Int) × Int × (List Power) => (T_keep_made_l1 s.1 s.2.1 s.2.2).run) (x0, x1, x2)
noncomputable def A_keep_made_l1 : Ann := ⟨[], [], [], live_keep_made, []⟩
noncomputable def q_keep_made_l1 : LQ ((List Int) × Int × (List Power)) := (LQ.seq (Par.q intsP) (LQ.skip (LQ.const (.own 0)) (LQ.seq (Par.q intP) (Par.q powersP))))
noncomputable def p_keep_made_l1 : Pat := ⟨[0, 3, 4], [.pub 0, .nilsl 0 (.ints []), .nilown 3 45 (.powers [])]⟩
noncomputable def s_keep_made_l1 : List BS := [.rows 45]
noncomputable def q_keep_made_l1_e0 : LQ ((List Power)) := (LQ.skip (LQ.const (.own 0)) (Par.q powersP))
noncomputable def p_keep_made_l1_e0 : Pat := ⟨[3], [.nilown 3 45 (.powers [])]⟩
noncomputable def s_keep_made_l1_e0 : List BS := [.rows 45]
noncomputable def L_keep_made_l1 : St → Option LR := pieceL q_keep_made_l1 30 0 p_keep_made_l1 s_keep_made_l1 (fun o => LR.one o (fun r => (.exit 0, stP q_keep_made_l1_e0 30 5 p_keep_made_l1_e0 s_keep_made_l1_e0 r))) (fun a => iter (fun s : (List Int) × Int × (List Power) => (T_keep_made_l1 s.1 s.2.1 s.2.2).run) a)
noncomputable def E_keep_made_l1 : Exit → Option (End (((List Int) × Int × (List Power)) ⊕ ((List Power))))
  | .normal => some ⟨_, q_keep_made_l1, p_keep_made_l1, s_keep_made_l1, fun b => .inl b⟩
  | .exit 0 => some ⟨_, q_keep_made_l1_e0, p_keep_made_l1_e0, s_keep_made_l1_e0, fun b => .inr b⟩
  | _ => none
noncomputable def O_keep_made_l1 : (((List Int) × Int × (List Power)) ⊕ ((List Power))) → Exit × St
  | .inl b => (.normal, stP q_keep_made_l1 30 5 p_keep_made_l1 s_keep_made_l1 b)
  | .inr b => (.exit 0, stP q_keep_made_l1_e0 30 5 p_keep_made_l1_e0 s_keep_made_l1_e0 b)
theorem lok_keep_made_l1 : PieceOk (Y_keep_made).env 0 (sub C_keep_made [0, 1, 0, 1, 1]) L_keep_made_l1 :=
  loop_ok (Y := Y_keep_made) (A := A_keep_made_l1) hY_keep_made Facts.mix (root := C_keep_made) (L := 0) trivial (π := [0, 1, 0, 1, 1]) (c := loopB (sub C_keep_made [0, 1, 0, 1, 1])) (by kernel_rfl) q_keep_made_l1 30 5 p_keep_made_l1 s_keep_made_l1 E_keep_made_l1 (fun s => T_keep_made_l1 s.1 s.2.1 s.2.2) O_keep_made_l1 (by intro e d h b; unfold E_keep_made_l1 at h; split at h <;> first | (cases h; rfl) | cases h) (fun _ => rfl) (by intro r; exact (fun h => by cases h)) (fun o => LR.one o (fun r => (.exit 0, stP q_keep_made_l1_e0 30 5 p_keep_made_l1_e0 s_keep_made_l1_e0 r))) (by intro o Q h; obtain ⟨v, h1, h2⟩ := h; exact ⟨v, h1, h2⟩)
    (by rintro ⟨x0, x1, x2⟩; kernel_rfl)
noncomputable def A_keep_made : Ann := ⟨[([0, 1, 0, 1, 1], L_keep_made_l1)], [], [], live_keep_made, []⟩
noncomputable def T_keep_made (a0 : (List Int)) : Tr ((List Power)) :=
  (.bind (sh_keep_made_l1 a0 0 []) fun v2 =>
  (.leaf v2))
noncomputable def sh_keep_made (a0 : (List Int)) : Option ((List Power)) := (T_keep_made a0).run
noncomputable def qa_keep_made : LQ ((List Int)) := (Par.q intsP)
noncomputable def qr_keep_made : LQ ((List Power)) := (Par.q powersP)
noncomputable def F_keep_made : SpecT := specF 0 qa_keep_made 1 [] (fun s => T_keep_made s) default qr_keep_made 1 []
theorem ok_keep_made : SpecOk Try.prog 40 (F_keep_made).spec :=
  specF_ok (Y := Y_keep_made) (A := A_keep_made) hY_keep_made Facts.mix Try.func40 (c := C_keep_made) (by kernel_rfl) (Lc := 0) ⟨lok_keep_made_l1, trivial⟩ qa_keep_made 1 5 [] (fun s => T_keep_made s) default qr_keep_made 1 [] [.pub 2] (by decide) (by kernel_rfl) (by rfl) (by decide) (by decide) (by rfl)
    (by rintro a0; kernel_rfl)

noncomputable def C_keep_samePowers : Code := Try.f41.body.getD .skip
noncomputable def live_keep_samePowers : List (List Nat) := [[0, 1], [0, 1, 10], [4], [0, 1, 5], [0, 1, 5, 14], [0, 1, 5], [0, 1, 5, 25], [4], [4]]
noncomputable def Y_keep_samePowers : EnvT := ⟨Try.prog, lookT []⟩
theorem hY_keep_samePowers : (Y_keep_samePowers).Ok := lookT_ok trivial
noncomputable def T_keep_samePowers_l1 (x0 : (List Power)) (x1 : (List Power)) (x2 : Int) : Tr (((List Power) × (List Power) × Int) ⊕ ((Bool) ⊕ (Unit))) :=
  (.ite (decide (x2 < ((x0.length : Nat) : Int)))
    (.guard ((0 : Int) ≤ x2 ∧ x2 < ((Sl.len (.powers x0) : Nat) : Int))
    (.guard ((0 : Int) ≤ x2 ∧ x2 < ((Sl.len (.powers x1) : Nat) : Int))
    (.ite (!((((x0.getD x2.toNat default).V) == ((x1.getD x2.toNat default).V)) && ((((x0.getD x2.toNat default).N) == ((x1.getD x2.toNat default).N)) && true)))
      (.leaf (.inr (.inl false)))
      (.leaf (.inl (x0, x1, IntKind.i64.wrap (x2 + 1)))))))
    (.leaf (.inr (.inr ()))))
noncomputable def sh_keep_samePowers_l1 (x0 : (List Power)) (x1 : (List Power)) (x2 : Int) : Option ((Bool) ⊕ (Unit)) := iter (fun s : (List Power) × (List Power) × Int => (T_keep_samePowers_l1 s.1 s.2.1 s.2.2).run) (x0, x1, x2)
noncomputable def A_keep_samePowers_l1 : Ann := ⟨[], [], [], live_keep_samePowers, []⟩
noncomputable def q_keep_samePowers_l1 : LQ ((List Power) × (List Power) × Int) := (LQ.seq (Par.q powersP) (LQ.seq (Par.q powersP) (Par.q intP)))
noncomputable def p_keep_samePowers_l1 : Pat := ⟨[0, 1, 5], [.pub 0, .nilsl 0 (.powers []), .pub 1, .nilsl 1 (.powers [])]⟩
noncomputable def s_keep_samePowers_l1 : List BS := []
noncomputable def q_keep_samePowers_l1_e0 : LQ (Bool) := (Par.q boolP)
noncomputable def p_keep_samePowers_l1_e0 : Pat := ⟨[4], []⟩
noncomputable def s_keep_samePowers_l1_e0 : List BS := []
noncomputable def q_keep_samePowers_l1_e1 : LQ (Unit) := LQ.nil
noncomputable def p_keep_samePowers_l1_e1 : Pat := ⟨[], []⟩
noncomputable def s_keep_samePowers_l1_e1 : List BS := []
noncomputable def L_keep_samePowers_l1 : St → Option LR := pieceL q_keep_samePowers_l1 26 0 p_keep_samePowers_l1 s_keep_samePowers_l1 (fun o => LR.two o (fun r => (.ret, stP q_keep_samePowers_l1_e0 26 2 p_keep_samePowers_l1_e0 s_keep_samePowers_l1_e0 r)) (fun r => (.exit 0, stP q_keep_samePowers_l1_e1 26 2 p_keep_samePowers_l1_e1 s_keep_samePowers_l1_e1 r))) (fun a => iter (fun s : (List Power) × (List Power) × Int => (T_keep_samePowers_l1 s.1 s.2.1 s.2.2).run) a)
noncomputable def E_keep_samePowers_l1 : Exit → Option (End (((List Power) × (List Power) × Int) ⊕ ((Bool) ⊕ (Unit))))
  | .normal => some ⟨_, q_keep_samePowers_l1, p_keep_samePowers_l1, s_keep_samePowers_l1, fun b => .inl b⟩
  | .ret => some ⟨_, q_keep_samePowers_l1_e0, p_keep_samePowers_l1_e0, s_keep_samePowers_l1_e0, fun b => .inr (.inl b)⟩
  | .exit 0 => some ⟨_, q_keep_samePowers_l1_e1, p_keep_samePowers_l1_e1, s_keep_samePowers_l1_e1, fun b => .inr (.inr b)⟩
  | _ => none
noncomputable def O_keep_samePowers_l1 : (((List Power) × (List Power) × Int) ⊕ ((Bool) ⊕ (Unit))) → Exit × St
  | .inl b => (.normal, stP q_keep_samePowers_l1 26 2 p_keep_samePowers_l1 s_keep_samePowers_l1 b)
  | .inr (.inl b) => (.ret, stP q_keep_samePowers_l1_e0 26 2 p_keep_samePowers_l1_e0 s_keep_samePowers_l1_e0 b)
  | .inr (.inr b) => (.exit 0, stP q_keep_samePowers_l1_e1 26 2 p_keep_samePowers_l1_e1 s_keep_samePowers_l1_e1 b)
theorem lok_keep_samePowers_l1 : PieceOk (Y_keep_samePowers).env 0 (sub C_keep_samePowers [0, 1, 0, 1, 1]) L_keep_samePowers_l1 :=
  loop_ok (Y := Y_keep_samePowers) (A := A_keep_samePowers_l1) hY_keep_samePowers Facts.mix (root := C_keep_samePowers) (L := 0) trivial (π := [0, 1, 0, 1, 1]) (c := loopB (sub C_keep_samePowers [0, 1, 0, 1, 1])) (by kernel_rfl) q_keep_samePowers_l1 26 2 p_keep_samePowers_l1 s_keep_samePowers_l1 E_keep_samePowers_l1 (fun s => T_keep_samePowers_l1 s.1 s.2.1 s.2.2) O_keep_samePowers_l1 (by intro e d h b; unfold E_keep_samePowers_l1 at h; split at h <;> first | (cases h; rfl) | cases h) (fun _ => rfl) (by intro r; cases r <;> exact (fun h => by cases h)) (fun o => LR.two o (fun r => (.ret, stP q_keep_samePowers_l1_e0 26 2 p_keep_samePowers_l1_e0 s_keep_samePowers_l1_e0 r)) (fun r => (.exit 0, stP q_keep_samePowers_l1_e1 26 2 p_keep_samePowers_l1_e1 s_keep_samePowers_l1_e1 r))) (by intro o Q h; exact Or.elim h (fun ⟨v, h1, h2⟩ => ⟨_, h1, h2⟩) (fun ⟨v, h1, h2⟩ => ⟨_, h1, h2⟩))
    (by rintro ⟨x0, x1, x2⟩; kernel_rfl)
noncomputable def A_keep_samePowers : Ann := ⟨[([0, 1, 0, 1, 1], L_keep_samePowers_l1)], [], [], live_keep_samePowers, []⟩
noncomputable def T_keep_samePowers (a0 : (List Power)) (a1 : (List Power)) : Tr (Bool) :=
  (.ite (((a0.length : Nat) : Int) != ((a1.length : Nat) : Int))
    (.leaf false)
    (.two (sh_keep_samePowers_l1 a0 a1 0) (fun v1 =>
      (.leaf v1)) (fun v2 =>
      (.leaf true))))
noncomputable def sh_keep_samePowers (a0 : (List Power)) (a1 : (List Power)) : Option (Bool) := (T_keep_samePowers a0 a1).run
noncomputable def qa_keep_samePowers : LQ ((List Power) × (List Power)) := (LQ.seq (Par.q powersP) (Par.q powersP))
noncomputable def qr_keep_samePowers : LQ (Bool) := (Par.q boolP)
noncomputable def F_keep_samePowers : SpecT := specF 0 qa_keep_samePowers 2 [] (fun s => T_keep_samePowers s.1 s.2) default qr_keep_samePowers 1 []
theorem ok_keep_samePowers : SpecOk Try.prog 41 (F_keep_samePowers).spec :=
  specF_ok (Y := Y_keep_samePowers) (A := A_keep_samePowers) hY_keep_samePowers Facts.mix Try.func41 (c := C_keep_samePowers) (by kernel_rfl) (Lc := 0) ⟨lok_keep_samePowers_l1, trivial⟩ qa_keep_samePowers 2 2 [] (fun s => T_keep_samePowers s.1 s.2) default qr_keep_samePowers 1 [] [] (by decide) (by kernel_rfl) (by rfl) (by decide) (by decide) (by rfl)
    (by rintro ⟨a0, a1⟩; kernel_rfl)

noncomputable def C_law_powers : Code := Try.f34.body.getD .skip
noncomputable def live_law_powers : List (List Nat) := [[0], [2]]
noncomputable def Y_law_powers : EnvT := ⟨Try.prog, lookT []⟩
theorem hY_law_powers : (Y_law_powers).Ok := lookT_ok trivial
noncomputable def A_law_powers : Ann := ⟨[], [], [], live_law_powers, []⟩
noncomputable def T_law_powers (a0 : (List Power)) : Tr ((List Power)) :=
  (.guard ((0 + Sl.len (.powers a0)) * 16 ≤ 140737488355328)
  (.leaf a0))
noncomputable def sh_law_powers (a0 : (List Power)) : Option ((List Power)) := (T_law_powers a0).run
noncomputable def qa_law_powers : LQ ((List Power)) := (Par.q powersP)
noncomputable def qr_law_powers : LQ ((List Power)) := (Par.q powersP)
noncomputable def F_law_powers : SpecT := specF 0 qa_law_powers 1 [] (fun s => T_law_powers s) default qr_law_powers 1 []
theorem ok_law_powers : SpecOk Try.prog 34 (F_law_powers).spec :=
  specF_ok (Y := Y_law_powers) (A := A_law_powers) hY_law_powers Facts.mix Try.func34 (c := C_law_powers) (by kernel_rfl) (Lc := 0) trivial qa_law_powers 1 3 [] (fun s => T_law_powers s) default qr_law_powers 1 [] [.pub 2] (by decide) (by kernel_rfl) (by rfl) (by decide) (by decide) (by rfl)
    (by rintro a0; kernel_rfl)

noncomputable def C_stake_Set : Code := Try.f25.body.getD .skip
noncomputable def live_stake_Set : List (List Nat) := [[1], [1, 3], [3, 8, 9], [3, 8, 9, 10], [3, 4, 5, 8, 9], [3, 4, 5, 6, 8, 9], [3, 4, 6, 8, 9, 22], [3, 8, 9], [3, 8, 9], [3], [3], [3], [2]]
noncomputable def Y_stake_Set : EnvT := ⟨Try.prog, lookT [(64, F_sort_SliceStable), (66, F_sort_Slice)]⟩
theorem hY_stake_Set : (Y_stake_Set).Ok := lookT_ok ⟨ok_sort_SliceStable, ok_sort_Slice, trivial⟩
noncomputable def T_stake_Set_l1 (x0 : (A6 Validator)) (x1 : Int) (x2 : (List Power)) : Tr (((A6 Validator) × Int × (List Power)) ⊕ ((List Power))) :=
  (.ite (decide (x1 < 6))
    (.guard ((0 : Int) ≤ x1 ∧ (x1 : Int) < 6)
    (.guard ((100 : Int) ≠ 0)
    (.ite ((!(A6.get ⟨x0.x0.Jailed, x0.x1.Jailed, x0.x2.Jailed, x0.x3.Jailed, x0.x4.Jailed, x0.x5.Jailed⟩ x1)) && (decide ((IntKind.i64.wrap (Int.tdiv (A6.get ⟨x0.x0.Tokens, x0.x1.Tokens, x0.x2.Tokens, x0.x3.Tokens, x0.x4.Tokens, x0.x5.Tokens⟩ x1) 100)) > 0)))
      (.guard ((Sl.len (.powers x2) + Sl.len (.powers [(⟨x1, IntKind.i64.wrap (Int.tdiv (A6.get ⟨x0.x0.Tokens, x0.x1.Tokens, x0.x2.Tokens, x0.x3.Tokens, x0.x4.Tokens, x0.x5.Tokens⟩ x1) 100)⟩ : Power)])) * 16 ≤ 140737488355328)
      (.leaf (.inl (x0, IntKind.i64.wrap (x1 + 1), x2 ++ [(⟨x1, IntKind.i64.wrap (Int.tdiv (A6.get ⟨x0.x0.Tokens, x0.x1.Tokens, x0.x2.Tokens, x0.x3.Tokens, x0.x4.Tokens, x0.x5.Tokens⟩ x1) 100)⟩ : Power)]))))
      (.leaf (.inl (x0, IntKind.i64.wrap (x1 + 1), x2))))))
    (.leaf (.inr x2)))
noncomputable def sh_stake_Set_l1 (x0 : (A6 Validator)) (x1 : Int) (x2 : (List Power)) : Option ((List Power)) := iter (fun s : (A6 Validator) × Int × (List Power) => (T_stake_Set_l1 s.1 s.2.1 s.2.2).run) (x0, x1, x2)
noncomputable def A_stake_Set_l1 : Ann := ⟨[], [], [], live_stake_Set, []⟩
noncomputable def q_stake_Set_l1 : LQ ((A6 Validator) × Int × (List Power)) := (LQ.skip (LQ.const (.ptr 0 0)) (LQ.seq (Par.q (Par.ofLP (a6L validatorL))) (LQ.seq (Par.q intP) (LQ.skip (LQ.const (.own 1)) (Par.q powersP)))))
noncomputable def p_stake_Set_l1 : Pat := ⟨[3, 8, 9], [.nilcell 3 0 45 (.powers [])]⟩
noncomputable def s_stake_Set_l1 : List BS := [.cells 42 1, .rows 45]
noncomputable def q_stake_Set_l1_e0 : LQ ((List Power)) := (LQ.skip (LQ.const (.ptr 0 0)) (LQ.skip (LQ.const (.own 1)) (Par.q powersP)))
noncomputable def p_stake_Set_l1_e0 : Pat := ⟨[3], [.nilcell 3 0 45 (.powers [])]⟩
noncomputable def s_stake_Set_l1_e0 : List BS := [.cells 42 1, .rows 45]
noncomputable def L_stake_Set_l1 : St → Option LR := pieceL q_stake_Set_l1 44 0 p_stake_Set_l1 s_stake_Set_l1 (fun o => LR.one o (fun r => (.exit 0, stP q_stake_Set_l1_e0 44 7 p_stake_Set_l1_e0 s_stake_Set_l1_e0 r))) (fun a => iter (fun s : (A6 Validator) × Int × (List Power) => (T_stake_Set_l1 s.1 s.2.1 s.2.2).run) a)
noncomputable def E_stake_Set_l1 : Exit → Option (End (((A6 Validator) × Int × (List Power)) ⊕ ((List Power))))
  | .normal => some ⟨_, q_stake_Set_l1, p_stake_Set_l1, s_stake_Set_l1, fun b => .inl b⟩
  | .exit 0 => some ⟨_, q_stake_Set_l1_e0, p_stake_Set_l1_e0, s_stake_Set_l1_e0, fun b => .inr b⟩
  | _ => none
noncomputable def O_stake_Set_l1 : (((A6 Validator) × Int × (List Power)) ⊕ ((List Power))) → Exit × St
  | .inl b => (.normal, stP q_stake_Set_l1 44 7 p_stake_Set_l1 s_stake_Set_l1 b)
  | .inr b => (.exit 0, stP q_stake_Set_l1_e0 44 7 p_stake_Set_l1_e0 s_stake_Set_l1_e0 b)
theorem lok_stake_Set_l1 : PieceOk (Y_stake_Set).env 0 (sub C_stake_Set [0, 1, 0, 1, 1]) L_stake_Set_l1 :=
  loop_ok (Y := Y_stake_Set) (A := A_stake_Set_l1) hY_stake_Set Facts.mix (root := C_stake_Set) (L := 0) trivial (π := [0, 1, 0, 1, 1]) (c := loopB (sub C_stake_Set [0, 1, 0, 1, 1])) (by kernel_rfl) q_stake_Set_l1 44 7 p_stake_Set_l1 s_stake_Set_l1 E_stake_Set_l1 (fun s => T_stake_Set_l1 s.1 s.2.1 s.2.2) O_stake_Set_l1 (by intro e d h b; unfold E_stake_Set_l1 at h; split at h <;> first | (cases h; rfl) | cases h) (fun _ => rfl) (by intro r; exact (fun h => by cases h)) (fun o => LR.one o (fun r => (.exit 0, stP q_stake_Set_l1_e0 44 7 p_stake_Set_l1_e0 s_stake_Set_l1_e0 r))) (by intro o Q h; obtain ⟨v, h1, h2⟩ := h; exact ⟨v, h1, h2⟩)
    (by rintro ⟨x0, x1, x2⟩; kernel_rfl)
noncomputable def A_stake_Set : Ann := ⟨[([0, 1, 0, 1, 1], L_stake_Set_l1)], [], [], live_stake_Set, []⟩
noncomputable def T_stake_Set (a0 : Stake) : Tr ((List Power)) :=
  (.bind (sh_stake_Set_l1 (⟨(⟨a0.Validators.Tokens.x0, a0.Validators.Shares.x0, a0.Validators.Lost.x0, a0.Validators.Jailed.x0, a0.Validators.Dead.x0⟩ : Validator), (⟨a0.Validators.Tokens.x1, a0.Validators.Shares.x1, a0.Validators.Lost.x1, a0.Validators.Jailed.x1, a0.Validators.Dead.x1⟩ : Validator), (⟨a0.Validators.Tokens.x2, a0.Validators.Shares.x2, a0.Validators.Lost.x2, a0.Validators.Jailed.x2, a0.Validators.Dead.x2⟩ : Validator), (⟨a0.Validators.Tokens.x3, a0.Validators.Shares.x3, a0.Validators.Lost.x3, a0.Validators.Jailed.x3, a0.Validators.Dead.x3⟩ : Validator), (⟨a0.Validators.Tokens.x4, a0.Validators.Shares.x4, a0.Validators.Lost.x4, a0.Validators.Jailed.x4, a0.Validators.Dead.x4⟩ : Validator), (⟨a0.Validators.Tokens.x5, a0.Validators.Shares.x5, a0.Validators.Lost.x5, a0.Validators.Jailed.x5, a0.Validators.Dead.x5⟩ : Validator)⟩ : (A6 Validator)) 0 []) fun v1 =>
  (.bind (sh_sort_SliceStable v1) fun v2 =>
  (.guard ((0 : Int) ≤ (if 4 < ((v2.length : Nat) : Int) then 4 else ((v2.length : Nat) : Int)) ∧ (if 4 < ((v2.length : Nat) : Int) then 4 else ((v2.length : Nat) : Int)) ≤ ((Sl.len (.powers v2) : Nat) : Int))
  (.bind (sh_sort_Slice ((v2.drop 0).take ((if 4 < ((v2.length : Nat) : Int) then 4 else ((v2.length : Nat) : Int)).toNat - 0))) fun v3 =>
  (.leaf v3)))))
noncomputable def sh_stake_Set (a0 : Stake) : Option ((List Power)) := (T_stake_Set a0).run
noncomputable def qa_stake_Set : LQ (Stake) := (Par.q (Par.ofLP stakeL))
noncomputable def qr_stake_Set : LQ ((List Power)) := (Par.q powersP)
noncomputable def F_stake_Set : SpecT := specF 0 qa_stake_Set 1 [] (fun s => T_stake_Set s) default qr_stake_Set 1 []
theorem ok_stake_Set : SpecOk Try.prog 25 (F_stake_Set).spec :=
  specF_ok (Y := Y_stake_Set) (A := A_stake_Set) hY_stake_Set Facts.mix Try.func25 (c := C_stake_Set) (by kernel_rfl) (Lc := 0) ⟨lok_stake_Set_l1, trivial⟩ qa_stake_Set 1 7 [] (fun s => T_stake_Set s) default qr_stake_Set 1 [] [.pub 2] (by decide) (by kernel_rfl) (by rfl) (by decide) (by decide) (by rfl)
    (by rintro a0; kernel_rfl)

end Go.Proofs.Ytbpehnghffljiaa.Ab
