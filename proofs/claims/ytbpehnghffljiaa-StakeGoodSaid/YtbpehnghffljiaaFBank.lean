/-
  The functions, each by its tree.
-/
import Derived.Test.YtbpehnghffljiaaFacts
import Derived.Test.YtbpehnghffljiaaAbStructs
import Derived.Test.YtbpehnghffljiaaAbFun
import Derived.Test.YtbpehnghffljiaaFRatio
namespace Go.Proofs.Ytbpehnghffljiaa.Ab
open Go Go.RowKit
set_option maxRecDepth 100000
set_option linter.unusedVariables false
set_option linter.unusedSimpArgs false

noncomputable def C_bank_New : Code := Try.f62.body.getD .skip
noncomputable def live_bank_New : List (List Nat) := [[0], [0, 1], [0, 1, 3], [0, 1, 3, 4], [0, 1, 2, 3], [0, 1, 3], [0, 1, 3], [0]]
noncomputable def Y_bank_New : EnvT := ⟨Try.prog, lookT []⟩
theorem hY_bank_New : (Y_bank_New).Ok := lookT_ok trivial
noncomputable def T_bank_New_l1 (x0 : Int) (x1 : Bank) (x2 : Bank) : Tr ((Int × Bank × Bank) ⊕ (Bank × Bank)) :=
  (.ite (decide (x0 < 4))
    (.guard ((0 : Int) ≤ x0 ∧ (x0 : Int) < 4)
    (.leaf (.inl (IntKind.i64.wrap (x0 + 1), x1, { (x2 : Bank) with Free := (x2.Free.set x0 100000) }))))
    (.leaf (.inr (x1, x2))))
noncomputable def sh_bank_New_l1 (x0 : Int) (x1 : Bank) (x2 : Bank) : Option (Bank × Bank) := iter (fun s : Int × Bank × Bank => (T_bank_New_l1 s.1 s.2.1 s.2.2).run) (x0, x1, x2)
noncomputable def A_bank_New_l1 : Ann := ⟨[], [], [], live_bank_New, []⟩
noncomputable def q_bank_New_l1 : LQ (Int × Bank × Bank) := (LQ.skip (LQ.const (.ptr 0 0)) (LQ.skip (LQ.const (.ptr 1 0)) (LQ.seq (Par.q intP) (LQ.seq (LP.q bankL) (LP.q bankL)))))
noncomputable def p_bank_New_l1 : Pat := ⟨[0, 1, 3], []⟩
noncomputable def s_bank_New_l1 : List BS := [.cells 24 7, .cells 24 7]
noncomputable def q_bank_New_l1_e0 : LQ (Bank × Bank) := (LQ.skip (LQ.const (.ptr 0 0)) (LQ.skip (LQ.const (.ptr 1 0)) (LQ.seq (LP.q bankL) (LP.q bankL))))
noncomputable def p_bank_New_l1_e0 : Pat := ⟨[0, 1], []⟩
noncomputable def s_bank_New_l1_e0 : List BS := [.cells 24 7, .cells 24 7]
noncomputable def L_bank_New_l1 : St → Option LR := pieceL q_bank_New_l1 11 0 p_bank_New_l1 s_bank_New_l1 (fun o => LR.one o (fun r => (.exit 0, stP q_bank_New_l1_e0 11 4 p_bank_New_l1_e0 s_bank_New_l1_e0 r))) (fun a => iter (fun s : Int × Bank × Bank => (T_bank_New_l1 s.1 s.2.1 s.2.2).run) a)
noncomputable def E_bank_New_l1 : Exit → Option (End ((Int × Bank × Bank) ⊕ (Bank × Bank)))
  | .normal => some ⟨_, q_bank_New_l1, p_bank_New_l1, s_bank_New_l1, fun b => .inl b⟩
  | .exit 0 => some ⟨_, q_bank_New_l1_e0, p_bank_New_l1_e0, s_bank_New_l1_e0, fun b => .inr b⟩
  | _ => none
noncomputable def O_bank_New_l1 : ((Int × Bank × Bank) ⊕ (Bank × Bank)) → Exit × St
  | .inl b => (.normal, stP q_bank_New_l1 11 4 p_bank_New_l1 s_bank_New_l1 b)
  | .inr b => (.exit 0, stP q_bank_New_l1_e0 11 4 p_bank_New_l1_e0 s_bank_New_l1_e0 b)
theorem lok_bank_New_l1 : PieceOk (Y_bank_New).env 0 (sub C_bank_New [0, 1, 0, 1, 1]) L_bank_New_l1 :=
  loop_ok (Y := Y_bank_New) (A := A_bank_New_l1) hY_bank_New Facts.mix (root := C_bank_New) (L := 0) trivial (π := [0, 1, 0, 1, 1]) (c := loopB (sub C_bank_New [0, 1, 0, 1, 1])) (by kernel_rfl) q_bank_New_l1 11 4 p_bank_New_l1 s_bank_New_l1 E_bank_New_l1 (fun s => T_bank_New_l1 s.1 s.2.1 s.2.2) O_bank_New_l1 (by intro e d h b; unfold E_bank_New_l1 at h; split at h <;> first | (cases h; rfl) | cases h) (fun _ => rfl) (by intro r; exact (fun h => by cases h)) (fun o => LR.one o (fun r => (.exit 0, stP q_bank_New_l1_e0 11 4 p_bank_New_l1_e0 s_bank_New_l1_e0 r))) (by intro o Q h; obtain ⟨v, h1, h2⟩ := h; exact ⟨v, h1, h2⟩)
    (by rintro ⟨x0, x1, x2⟩; kernel_rfl)
noncomputable def A_bank_New : Ann := ⟨[([0, 1, 0, 1, 1], L_bank_New_l1)], [], [], live_bank_New, []⟩
noncomputable def T_bank_New  : Tr (Bank) :=
  (.bind (sh_bank_New_l1 0 (⟨(⟨0, 0, 0, 0⟩ : (A4 Int)), 0, 0, 0⟩ : Bank) (⟨(⟨0, 0, 0, 0⟩ : (A4 Int)), 0, 0, 0⟩ : Bank)) fun v1 =>
  (.leaf v1.2))
noncomputable def sh_bank_New  : Option (Bank) := (T_bank_New ).run
noncomputable def qa_bank_New : LQ (Unit) := LQ.nil
noncomputable def qr_bank_New : LQ (Bank) := (Par.q (Par.ofLP bankL))
noncomputable def F_bank_New : SpecT := specF 0 qa_bank_New 0 [] (fun s => T_bank_New ) default qr_bank_New 1 []
theorem ok_bank_New : SpecOk Try.prog 62 (F_bank_New).spec :=
  specF_ok (Y := Y_bank_New) (A := A_bank_New) hY_bank_New Facts.mix Try.func62 (c := C_bank_New) (by kernel_rfl) (Lc := 0) ⟨lok_bank_New_l1, trivial⟩ qa_bank_New 0 4 [] (fun s => T_bank_New ) default qr_bank_New 1 [] [] (by decide) (by kernel_rfl) (by rfl) (by decide) (by decide) (by rfl)
    (by rintro _; kernel_rfl)

noncomputable def C_bank_Sum : Code := Try.f51.body.getD .skip
noncomputable def live_bank_Sum : List (List Nat) := [[1], [1, 3], [3, 15, 16], [3, 15, 16, 17], [3, 5, 15, 16], [3, 15, 16], [3, 15, 16], [2]]
noncomputable def Y_bank_Sum : EnvT := ⟨Try.prog, lookT []⟩
theorem hY_bank_Sum : (Y_bank_Sum).Ok := lookT_ok trivial
noncomputable def T_bank_Sum_l1 (x0 : Int) (x1 : (A4 Int)) (x2 : Int) : Tr ((Int × (A4 Int) × Int) ⊕ (Int)) :=
  (.ite (decide (x2 < 4))
    (.guard ((0 : Int) ≤ x2 ∧ (x2 : Int) < 4)
    (.leaf (.inl (IntKind.i64.wrap (x0 + (x1.get x2)), x1, IntKind.i64.wrap (x2 + 1)))))
    (.leaf (.inr x0)))
noncomputable def sh_bank_Sum_l1 (x0 : Int) (x1 : (A4 Int)) (x2 : Int) : Option (Int) := iter (fun s : Int × (A4 Int) × Int => (T_bank_Sum_l1 s.1 s.2.1 s.2.2).run) (x0, x1, x2)
noncomputable def A_bank_Sum_l1 : Ann := ⟨[], [], [], live_bank_Sum, []⟩
noncomputable def q_bank_Sum_l1 : LQ (Int × (A4 Int) × Int) := (LQ.seq (Par.q intP) (LQ.seq (Par.q (Par.ofLP (a4L (LP.one intP)))) (Par.q intP)))
noncomputable def p_bank_Sum_l1 : Pat := ⟨[3, 15, 16], []⟩
noncomputable def s_bank_Sum_l1 : List BS := []
noncomputable def q_bank_Sum_l1_e0 : LQ (Int) := (Par.q intP)
noncomputable def p_bank_Sum_l1_e0 : Pat := ⟨[3], []⟩
noncomputable def s_bank_Sum_l1_e0 : List BS := []
noncomputable def L_bank_Sum_l1 : St → Option LR := pieceL q_bank_Sum_l1 24 0 p_bank_Sum_l1 s_bank_Sum_l1 (fun o => LR.one o (fun r => (.exit 0, stP q_bank_Sum_l1_e0 24 3 p_bank_Sum_l1_e0 s_bank_Sum_l1_e0 r))) (fun a => iter (fun s : Int × (A4 Int) × Int => (T_bank_Sum_l1 s.1 s.2.1 s.2.2).run) a)
noncomputable def E_bank_Sum_l1 : Exit → Option (End ((Int × (A4 Int) × Int) ⊕ (Int)))
  | .normal => some ⟨_, q_bank_Sum_l1, p_bank_Sum_l1, s_bank_Sum_l1, fun b => .inl b⟩
  | .exit 0 => some ⟨_, q_bank_Sum_l1_e0, p_bank_Sum_l1_e0, s_bank_Sum_l1_e0, fun b => .inr b⟩
  | _ => none
noncomputable def O_bank_Sum_l1 : ((Int × (A4 Int) × Int) ⊕ (Int)) → Exit × St
  | .inl b => (.normal, stP q_bank_Sum_l1 24 3 p_bank_Sum_l1 s_bank_Sum_l1 b)
  | .inr b => (.exit 0, stP q_bank_Sum_l1_e0 24 3 p_bank_Sum_l1_e0 s_bank_Sum_l1_e0 b)
theorem lok_bank_Sum_l1 : PieceOk (Y_bank_Sum).env 0 (sub C_bank_Sum [0, 1, 0, 1, 1]) L_bank_Sum_l1 :=
  loop_ok (Y := Y_bank_Sum) (A := A_bank_Sum_l1) hY_bank_Sum Facts.mix (root := C_bank_Sum) (L := 0) trivial (π := [0, 1, 0, 1, 1]) (c := loopB (sub C_bank_Sum [0, 1, 0, 1, 1])) (by kernel_rfl) q_bank_Sum_l1 24 3 p_bank_Sum_l1 s_bank_Sum_l1 E_bank_Sum_l1 (fun s => T_bank_Sum_l1 s.1 s.2.1 s.2.2) O_bank_Sum_l1 (by intro e d h b; unfold E_bank_Sum_l1 at h; split at h <;> first | (cases h; rfl) | cases h) (fun _ => rfl) (by intro r; exact (fun h => by cases h)) (fun o => LR.one o (fun r => (.exit 0, stP q_bank_Sum_l1_e0 24 3 p_bank_Sum_l1_e0 s_bank_Sum_l1_e0 r))) (by intro o Q h; obtain ⟨v, h1, h2⟩ := h; exact ⟨v, h1, h2⟩)
    (by rintro ⟨x0, x1, x2⟩; kernel_rfl)
noncomputable def A_bank_Sum : Ann := ⟨[([0, 1, 0, 1, 1], L_bank_Sum_l1)], [], [], live_bank_Sum, []⟩
noncomputable def T_bank_Sum (a0 : Bank) : Tr (Int) :=
  (.bind (sh_bank_Sum_l1 (IntKind.i64.wrap ((IntKind.i64.wrap (a0.Bonded + a0.Waiting)) + a0.Burnt)) a0.Free 0) fun v1 =>
  (.leaf v1))
noncomputable def sh_bank_Sum (a0 : Bank) : Option (Int) := (T_bank_Sum a0).run
noncomputable def qa_bank_Sum : LQ (Bank) := (Par.q (Par.ofLP bankL))
noncomputable def qr_bank_Sum : LQ (Int) := (Par.q intP)
noncomputable def F_bank_Sum : SpecT := specF 0 qa_bank_Sum 1 [] (fun s => T_bank_Sum s) default qr_bank_Sum 1 []
theorem ok_bank_Sum : SpecOk Try.prog 51 (F_bank_Sum).spec :=
  specF_ok (Y := Y_bank_Sum) (A := A_bank_Sum) hY_bank_Sum Facts.mix Try.func51 (c := C_bank_Sum) (by kernel_rfl) (Lc := 0) ⟨lok_bank_Sum_l1, trivial⟩ qa_bank_Sum 1 3 [] (fun s => T_bank_Sum s) default qr_bank_Sum 1 [] [] (by decide) (by kernel_rfl) (by rfl) (by decide) (by decide) (by rfl)
    (by rintro a0; kernel_rfl)

noncomputable def C_bank_Good : Code := Try.f58.body.getD .skip
noncomputable def live_bank_Good : List (List Nat) := [[1], [1, 14, 15, 16], [1, 14, 15, 16, 17], [1, 4, 14, 15, 16], [1, 14, 15, 16, 25], [2], [1, 14, 15, 16], [2]]
noncomputable def Y_bank_Good : EnvT := ⟨Try.prog, lookT [(51, F_bank_Sum)]⟩
theorem hY_bank_Good : (Y_bank_Good).Ok := lookT_ok ⟨ok_bank_Sum, trivial⟩
noncomputable def T_bank_Good_l1 (x0 : Int) (x1 : Int) (x2 : Bank) (x3 : (List Int)) : Tr ((Int × Int × Bank × (List Int)) ⊕ ((Bool) ⊕ (Bank))) :=
  (.ite (decide (x1 < x0))
    (.guard ((0 : Int) ≤ x1 ∧ x1 < ((Sl.len (.ints x3) : Nat) : Int))
    (.ite ((decide ((x3.getD x1.toNat 0) < 0)) || (decide ((x3.getD x1.toNat 0) > 400000)))
      (.leaf (.inr (.inl false)))
      (.leaf (.inl (x0, IntKind.i64.wrap (x1 + 1), x2, x3)))))
    (.leaf (.inr (.inr x2))))
noncomputable def sh_bank_Good_l1 (x0 : Int) (x1 : Int) (x2 : Bank) (x3 : (List Int)) : Option ((Bool) ⊕ (Bank)) := iter (fun s : Int × Int × Bank × (List Int) => (T_bank_Good_l1 s.1 s.2.1 s.2.2.1 s.2.2.2).run) (x0, x1, x2, x3)
noncomputable def A_bank_Good_l1 : Ann := ⟨[], [], [], live_bank_Good, []⟩
noncomputable def q_bank_Good_l1 : LQ (Int × Int × Bank × (List Int)) := (LQ.skip (LQ.const (.ptr 0 0)) (LQ.skip (LQ.const (.own 1)) (LQ.seq (Par.q intP) (LQ.seq (Par.q intP) (LQ.seq (LP.q bankL) (Par.q intsP))))))
noncomputable def p_bank_Good_l1 : Pat := ⟨[1, 14, 15, 16], [.nilown 14 3 (.ints [])]⟩
noncomputable def s_bank_Good_l1 : List BS := [.cells 24 7, .rows 3]
noncomputable def q_bank_Good_l1_e0 : LQ (Bool) := (Par.q boolP)
noncomputable def p_bank_Good_l1_e0 : Pat := ⟨[2], []⟩
noncomputable def s_bank_Good_l1_e0 : List BS := []
noncomputable def q_bank_Good_l1_e1 : LQ (Bank) := (LQ.skip (LQ.const (.ptr 0 0)) (LP.q bankL))
noncomputable def p_bank_Good_l1_e1 : Pat := ⟨[1], []⟩
noncomputable def s_bank_Good_l1_e1 : List BS := [.cells 24 7]
noncomputable def L_bank_Good_l1 : St → Option LR := pieceL q_bank_Good_l1 30 0 p_bank_Good_l1 s_bank_Good_l1 (fun o => LR.two o (fun r => (.ret, stP q_bank_Good_l1_e0 30 5 p_bank_Good_l1_e0 s_bank_Good_l1_e0 r)) (fun r => (.exit 0, stP q_bank_Good_l1_e1 30 5 p_bank_Good_l1_e1 s_bank_Good_l1_e1 r))) (fun a => iter (fun s : Int × Int × Bank × (List Int) => (T_bank_Good_l1 s.1 s.2.1 s.2.2.1 s.2.2.2).run) a)
noncomputable def E_bank_Good_l1 : Exit → Option (End ((Int × Int × Bank × (List Int)) ⊕ ((Bool) ⊕ (Bank))))
  | .normal => some ⟨_, q_bank_Good_l1, p_bank_Good_l1, s_bank_Good_l1, fun b => .inl b⟩
  | .ret => some ⟨_, q_bank_Good_l1_e0, p_bank_Good_l1_e0, s_bank_Good_l1_e0, fun b => .inr (.inl b)⟩
  | .exit 0 => some ⟨_, q_bank_Good_l1_e1, p_bank_Good_l1_e1, s_bank_Good_l1_e1, fun b => .inr (.inr b)⟩
  | _ => none
noncomputable def O_bank_Good_l1 : ((Int × Int × Bank × (List Int)) ⊕ ((Bool) ⊕ (Bank))) → Exit × St
  | .inl b => (.normal, stP q_bank_Good_l1 30 5 p_bank_Good_l1 s_bank_Good_l1 b)
  | .inr (.inl b) => (.ret, stP q_bank_Good_l1_e0 30 5 p_bank_Good_l1_e0 s_bank_Good_l1_e0 b)
  | .inr (.inr b) => (.exit 0, stP q_bank_Good_l1_e1 30 5 p_bank_Good_l1_e1 s_bank_Good_l1_e1 b)
theorem lok_bank_Good_l1 : PieceOk (Y_bank_Good).env 0 (sub C_bank_Good [0, 1, 0, 1]) L_bank_Good_l1 :=
  loop_ok (Y := Y_bank_Good) (A := A_bank_Good_l1) hY_bank_Good Facts.mix (root := C_bank_Good) (L := 0) trivial (π := [0, 1, 0, 1]) (c := loopB (sub C_bank_Good [0, 1, 0, 1])) (by kernel_rfl) q_bank_Good_l1 30 5 p_bank_Good_l1 s_bank_Good_l1 E_bank_Good_l1 (fun s => T_bank_Good_l1 s.1 s.2.1 s.2.2.1 s.2.2.2) O_bank_Good_l1 (by intro e d h b; unfold E_bank_Good_l1 at h; split at h <;> first | (cases h; rfl) | cases h) (fun _ => rfl) (by intro r; cases r <;> exact (fun h => by cases h)) (fun o => LR.two o (fun r => (.ret, stP q_bank_Good_l1_e0 30 5 p_bank_Good_l1_e0 s_bank_Good_l1_e0 r)) (fun r => (.exit 0, stP q_bank_Good_l1_e1 30 5 p_bank_Good_l1_e1 s_bank_Good_l1_e1 r))) (by intro o Q h; exact Or.elim h (fun ⟨v, h1, h2⟩ => ⟨_, h1, h2⟩) (fun ⟨v, h1, h2⟩ => ⟨_, h1, h2⟩))
    (by rintro ⟨x0, x1, x2, x3⟩; kernel_rfl)
noncomputable def A_bank_Good : Ann := ⟨[([0, 1, 0, 1], L_bank_Good_l1)], [], [], live_bank_Good, []⟩
noncomputable def T_bank_Good (a0 : Bank) : Tr (Bool) :=
  (.guard ((Sl.len (.ints [a0.Free.x0, a0.Free.x1, a0.Free.x2, a0.Free.x3]) + Sl.len (.ints [a0.Bonded, a0.Waiting, a0.Burnt])) * 8 ≤ 140737488355328)
  (.guard (0 < Sl.len (.ints [a0.Bonded, a0.Waiting, a0.Burnt]))
  (.two (sh_bank_Good_l1 ((([a0.Free.x0, a0.Free.x1, a0.Free.x2, a0.Free.x3] ++ [a0.Bonded, a0.Waiting, a0.Burnt]).length : Nat) : Int) 0 a0 ([a0.Free.x0, a0.Free.x1, a0.Free.x2, a0.Free.x3] ++ [a0.Bonded, a0.Waiting, a0.Burnt])) (fun v1 =>
    (.leaf v1)) (fun v2 =>
    (.bind (sh_bank_Sum v2) fun v3 =>
    (.leaf (v3 == 400000)))))))
noncomputable def sh_bank_Good (a0 : Bank) : Option (Bool) := (T_bank_Good a0).run
noncomputable def qa_bank_Good : LQ (Bank) := (Par.q (Par.ofLP bankL))
noncomputable def qr_bank_Good : LQ (Bool) := (Par.q boolP)
noncomputable def F_bank_Good : SpecT := specF 0 qa_bank_Good 1 [] (fun s => T_bank_Good s) default qr_bank_Good 1 []
theorem ok_bank_Good : SpecOk Try.prog 58 (F_bank_Good).spec :=
  specF_ok (Y := Y_bank_Good) (A := A_bank_Good) hY_bank_Good Facts.mix Try.func58 (c := C_bank_Good) (by kernel_rfl) (Lc := 0) ⟨lok_bank_Good_l1, trivial⟩ qa_bank_Good 1 5 [] (fun s => T_bank_Good s) default qr_bank_Good 1 [] [] (by decide) (by kernel_rfl) (by rfl) (by decide) (by decide) (by rfl)
    (by rintro a0; kernel_rfl)

noncomputable def C_bank_delegator : Code := Try.f82.body.getD .skip
noncomputable def live_bank_delegator : List (List Nat) := [[0], [2]]
noncomputable def Y_bank_delegator : EnvT := ⟨Try.prog, lookT []⟩
theorem hY_bank_delegator : (Y_bank_delegator).Ok := lookT_ok trivial
noncomputable def A_bank_delegator : Ann := ⟨[], [], [], live_bank_delegator, []⟩
noncomputable def T_bank_delegator (a0 : Int) : Tr (Bool) :=
  (.leaf ((decide (a0 ≥ 0)) && (decide (a0 < 4))))
noncomputable def sh_bank_delegator (a0 : Int) : Option (Bool) := (T_bank_delegator a0).run
noncomputable def qa_bank_delegator : LQ (Int) := (Par.q intP)
noncomputable def qr_bank_delegator : LQ (Bool) := (Par.q boolP)
noncomputable def F_bank_delegator : SpecT := specF 0 qa_bank_delegator 1 [] (fun s => T_bank_delegator s) default qr_bank_delegator 1 []
theorem ok_bank_delegator : SpecOk Try.prog 82 (F_bank_delegator).spec :=
  specF_ok (Y := Y_bank_delegator) (A := A_bank_delegator) hY_bank_delegator Facts.mix Try.func82 (c := C_bank_delegator) (by kernel_rfl) (Lc := 0) trivial qa_bank_delegator 1 2 [] (fun s => T_bank_delegator s) default qr_bank_delegator 1 [] [] (by decide) (by kernel_rfl) (by rfl) (by decide) (by decide) (by rfl)
    (by rintro a0; kernel_rfl)

noncomputable def C_bank_free_1 : Code := Try.f98.body.getD .skip
noncomputable def live_bank_free_1 : List (List Nat) := [[0, 1], [3]]
noncomputable def Y_bank_free_1 : EnvT := ⟨Try.prog, lookT []⟩
theorem hY_bank_free_1 : (Y_bank_free_1).Ok := lookT_ok trivial
noncomputable def A_bank_free_1 : Ann := ⟨[], [], [], live_bank_free_1, []⟩
noncomputable def T_bank_free_1 (a0 : Bank) (a1 : Int) : Tr (Int × Bank × Int) :=
  (.guard ((0 : Int) ≤ a1 ∧ (a1 : Int) < 4)
  (.leaf (a1, a0, a1)))
noncomputable def sh_bank_free_1 (a0 : Bank) (a1 : Int) : Option (Int × Bank × Int) := (T_bank_free_1 a0 a1).run
noncomputable def qa_bank_free_1 : LQ (Bank × Int) := (LQ.skip (LQ.const (.ptr 0 0)) (LQ.skip (LQ.const (.ptr 1 0)) (LQ.seq (LP.q bankL) (Par.q intP))))
noncomputable def qr_bank_free_1 : LQ (Int × Bank × Int) := (LQ.seq (LQ.pix1 0 0 4 1 0) (LQ.seq (LP.q bankL) (Par.q intP)))
noncomputable def F_bank_free_1 : SpecT := specF 2 qa_bank_free_1 2 [.cells 24 7, .cells 3 1] (fun s => T_bank_free_1 s.1 s.2) default qr_bank_free_1 1 [.cells 24 7, .cells 3 1]
theorem ok_bank_free_1 : SpecOk Try.prog 98 (F_bank_free_1).spec :=
  specF_ok (Y := Y_bank_free_1) (A := A_bank_free_1) hY_bank_free_1 Facts.mix Try.func98 (c := C_bank_free_1) (by kernel_rfl) (Lc := 2) trivial qa_bank_free_1 2 4 [.cells 24 7, .cells 3 1] (fun s => T_bank_free_1 s.1 s.2) default qr_bank_free_1 1 [.cells 24 7, .cells 3 1] [] (by decide) (by kernel_rfl) (by rfl) (by decide) (by decide) (by rfl)
    (by rintro ⟨a0, a1⟩; kernel_rfl)

noncomputable def C_bank_free : Code := Try.f84.body.getD .skip
noncomputable def live_bank_free : List (List Nat) := [[1], [2]]
noncomputable def Y_bank_free : EnvT := ⟨Try.prog, lookT []⟩
theorem hY_bank_free : (Y_bank_free).Ok := lookT_ok trivial
noncomputable def A_bank_free : Ann := ⟨[], [], [], live_bank_free, []⟩
noncomputable def T_bank_free (a0 : Int) : Tr (Int) :=
  (.leaf a0)
noncomputable def sh_bank_free (a0 : Int) : Option (Int) := (T_bank_free a0).run
noncomputable def qa_bank_free : LQ (Int) := (Par.q intP)
noncomputable def qr_bank_free : LQ (Int) := (LQ.skip (LQ.const (.fn 98 [.ptr 0 0])) (Par.q intP))
noncomputable def F_bank_free : SpecT := specF 0 qa_bank_free 1 [] (fun s => T_bank_free s) default qr_bank_free 1 [.cells 3 1]
theorem ok_bank_free : SpecOk Try.prog 84 (F_bank_free).spec :=
  specF_ok (Y := Y_bank_free) (A := A_bank_free) hY_bank_free Facts.mix Try.func84 (c := C_bank_free) (by kernel_rfl) (Lc := 0) trivial qa_bank_free 1 3 [] (fun s => T_bank_free s) default qr_bank_free 1 [.cells 3 1] [] (by decide) (by kernel_rfl) (by rfl) (by decide) (by decide) (by rfl)
    (by rintro a0; kernel_rfl)

noncomputable def C_bank_bonded : Code := Try.f85.body.getD .skip
noncomputable def live_bank_bonded : List (List Nat) := [[0], [2]]
noncomputable def Y_bank_bonded : EnvT := ⟨Try.prog, lookT []⟩
theorem hY_bank_bonded : (Y_bank_bonded).Ok := lookT_ok trivial
noncomputable def A_bank_bonded : Ann := ⟨[], [], [], live_bank_bonded, []⟩
noncomputable def T_bank_bonded (a0 : Bank) : Tr (Bank) :=
  (.leaf a0)
noncomputable def sh_bank_bonded (a0 : Bank) : Option (Bank) := (T_bank_bonded a0).run
noncomputable def qa_bank_bonded : LQ (Bank) := (LQ.skip (LQ.const (.ptr 0 0)) (LP.q bankL))
noncomputable def qr_bank_bonded : LQ (Bank) := (LQ.skip (LQ.const (.ptr 0 4)) (LP.q bankL))
noncomputable def F_bank_bonded : SpecT := specF 1 qa_bank_bonded 1 [.cells 24 7] (fun s => T_bank_bonded s) default qr_bank_bonded 1 [.cells 24 7]
theorem ok_bank_bonded : SpecOk Try.prog 85 (F_bank_bonded).spec :=
  specF_ok (Y := Y_bank_bonded) (A := A_bank_bonded) hY_bank_bonded Facts.mix Try.func85 (c := C_bank_bonded) (by kernel_rfl) (Lc := 1) trivial qa_bank_bonded 1 3 [.cells 24 7] (fun s => T_bank_bonded s) default qr_bank_bonded 1 [.cells 24 7] [] (by decide) (by kernel_rfl) (by rfl) (by decide) (by decide) (by rfl)
    (by rintro a0; kernel_rfl)

noncomputable def C_bank_waiting : Code := Try.f95.body.getD .skip
noncomputable def live_bank_waiting : List (List Nat) := [[0], [2]]
noncomputable def Y_bank_waiting : EnvT := ⟨Try.prog, lookT []⟩
theorem hY_bank_waiting : (Y_bank_waiting).Ok := lookT_ok trivial
noncomputable def A_bank_waiting : Ann := ⟨[], [], [], live_bank_waiting, []⟩
noncomputable def T_bank_waiting (a0 : Bank) : Tr (Bank) :=
  (.leaf a0)
noncomputable def sh_bank_waiting (a0 : Bank) : Option (Bank) := (T_bank_waiting a0).run
noncomputable def qa_bank_waiting : LQ (Bank) := (LQ.skip (LQ.const (.ptr 0 0)) (LP.q bankL))
noncomputable def qr_bank_waiting : LQ (Bank) := (LQ.skip (LQ.const (.ptr 0 5)) (LP.q bankL))
noncomputable def F_bank_waiting : SpecT := specF 1 qa_bank_waiting 1 [.cells 24 7] (fun s => T_bank_waiting s) default qr_bank_waiting 1 [.cells 24 7]
theorem ok_bank_waiting : SpecOk Try.prog 95 (F_bank_waiting).spec :=
  specF_ok (Y := Y_bank_waiting) (A := A_bank_waiting) hY_bank_waiting Facts.mix Try.func95 (c := C_bank_waiting) (by kernel_rfl) (Lc := 1) trivial qa_bank_waiting 1 3 [.cells 24 7] (fun s => T_bank_waiting s) default qr_bank_waiting 1 [.cells 24 7] [] (by decide) (by kernel_rfl) (by rfl) (by decide) (by decide) (by rfl)
    (by rintro a0; kernel_rfl)

noncomputable def C_bank_burnt : Code := Try.f96.body.getD .skip
noncomputable def live_bank_burnt : List (List Nat) := [[0], [2]]
noncomputable def Y_bank_burnt : EnvT := ⟨Try.prog, lookT []⟩
theorem hY_bank_burnt : (Y_bank_burnt).Ok := lookT_ok trivial
noncomputable def A_bank_burnt : Ann := ⟨[], [], [], live_bank_burnt, []⟩
noncomputable def T_bank_burnt (a0 : Bank) : Tr (Bank) :=
  (.leaf a0)
noncomputable def sh_bank_burnt (a0 : Bank) : Option (Bank) := (T_bank_burnt a0).run
noncomputable def qa_bank_burnt : LQ (Bank) := (LQ.skip (LQ.const (.ptr 0 0)) (LP.q bankL))
noncomputable def qr_bank_burnt : LQ (Bank) := (LQ.skip (LQ.const (.ptr 0 6)) (LP.q bankL))
noncomputable def F_bank_burnt : SpecT := specF 1 qa_bank_burnt 1 [.cells 24 7] (fun s => T_bank_burnt s) default qr_bank_burnt 1 [.cells 24 7]
theorem ok_bank_burnt : SpecOk Try.prog 96 (F_bank_burnt).spec :=
  specF_ok (Y := Y_bank_burnt) (A := A_bank_burnt) hY_bank_burnt Facts.mix Try.func96 (c := C_bank_burnt) (by kernel_rfl) (Lc := 1) trivial qa_bank_burnt 1 3 [.cells 24 7] (fun s => T_bank_burnt s) default qr_bank_burnt 1 [.cells 24 7] [] (by decide) (by kernel_rfl) (by rfl) (by decide) (by decide) (by rfl)
    (by rintro a0; kernel_rfl)

noncomputable def C_bank_move_0 : Code := Try.f83.body.getD .skip
noncomputable def live_bank_move_0 : List (List Nat) := [[1, 2, 3, 4, 8], [1, 2, 3, 4, 8, 10], [8, 9], [1, 2, 3, 4, 8, 20], [8, 9], [2, 3, 4, 8], [4, 8], [8, 9]]
noncomputable def Y_bank_move_0 : EnvT := ⟨Try.prog, lookT [(58, F_bank_Good), (59, F_ratio_In), (98, F_bank_free_1), (85, F_bank_bonded)]⟩
theorem hY_bank_move_0 : (Y_bank_move_0).Ok := lookT_ok ⟨ok_bank_Good, ok_ratio_In, ok_bank_free_1, ok_bank_bonded, trivial⟩
noncomputable def A_bank_move_0 : Ann := ⟨[], [], [], live_bank_move_0, []⟩
noncomputable def T_bank_move_0 (a0 : Bank) (a1 : Int) (a2 : Int) : Tr (Bank × Int × Int) :=
  (.bind (sh_bank_Good a0) fun v1 =>
  (.guard (((!v1) = false → ((sh_ratio_In a1).isSome = true) ∧ True))
  (.ite ((!v1) || (!((sh_ratio_In a1).getD default)))
    (.leaf (a0, 2, a2))
    (.bind (sh_bank_free_1 a0 a2) fun v2 =>
    (.ite (decide ((v2.2.1.Free.get v2.1) < a1))
      (.leaf (v2.2.1, 7, v2.2.2))
      (.bind (sh_bank_free_1 v2.2.1 v2.2.2) fun v3 =>
      (.bind (sh_bank_bonded ({ (v3.2.1 : Bank) with Free := (v3.2.1.Free.set v3.1 (IntKind.i64.wrap ((v3.2.1.Free.get v3.1) - a1))) })) fun v4 =>
      (.leaf ({ (v4 : Bank) with Bonded := IntKind.i64.wrap (v4.Bonded + a1) }, 0, v3.2.2)))))))))
noncomputable def sh_bank_move_0 (a0 : Bank) (a1 : Int) (a2 : Int) : Option (Bank × Int × Int) := (T_bank_move_0 a0 a1 a2).run
noncomputable def qa_bank_move_0 : LQ (Bank × Int × Int) := (LQ.seq (Par.q (Par.ofLP bankL)) (LQ.skip (LQ.const (.fn 98 [.ptr 0 0])) (LQ.skip (LQ.const (.fn 85 [])) (LQ.seq (Par.q intP) (Par.q intP)))))
noncomputable def qr_bank_move_0 : LQ (Bank × Int × Int) := (LQ.seq (Par.q (Par.ofLP bankL)) (LQ.seq (Par.q intP) (Par.q intP)))
noncomputable def F_bank_move_0 : SpecT := specF 1 qa_bank_move_0 4 [.cells 3 1] (fun s => T_bank_move_0 s.1 s.2.1 s.2.2) default qr_bank_move_0 2 [.cells 3 1]
theorem ok_bank_move_0 : SpecOk Try.prog 83 (F_bank_move_0).spec :=
  specF_ok (Y := Y_bank_move_0) (A := A_bank_move_0) hY_bank_move_0 Facts.mix Try.func83 (c := C_bank_move_0) (by kernel_rfl) (Lc := 1) trivial qa_bank_move_0 4 5 [.cells 3 1] (fun s => T_bank_move_0 s.1 s.2.1 s.2.2) default qr_bank_move_0 2 [.cells 3 1] [] (by decide) (by kernel_rfl) (by rfl) (by decide) (by decide) (by rfl)
    (by rintro ⟨a0, a1, a2⟩; kernel_rfl)

noncomputable def C_bank_move_1 : Code := Try.f83.body.getD .skip
noncomputable def live_bank_move_1 : List (List Nat) := [[1, 2, 3, 4, 8], [1, 2, 3, 4, 8, 10], [8, 9], [1, 2, 3, 4, 8, 20], [8, 9], [2, 3, 4, 8], [4, 8], [8, 9]]
noncomputable def Y_bank_move_1 : EnvT := ⟨Try.prog, lookT [(58, F_bank_Good), (59, F_ratio_In), (85, F_bank_bonded), (95, F_bank_waiting)]⟩
theorem hY_bank_move_1 : (Y_bank_move_1).Ok := lookT_ok ⟨ok_bank_Good, ok_ratio_In, ok_bank_bonded, ok_bank_waiting, trivial⟩
noncomputable def A_bank_move_1 : Ann := ⟨[], [], [], live_bank_move_1, []⟩
noncomputable def T_bank_move_1 (a0 : Bank) (a1 : Int) : Tr (Bank × Int) :=
  (.bind (sh_bank_Good a0) fun v1 =>
  (.guard (((!v1) = false → ((sh_ratio_In a1).isSome = true) ∧ True))
  (.ite ((!v1) || (!((sh_ratio_In a1).getD default)))
    (.leaf (a0, 2))
    (.bind (sh_bank_bonded a0) fun v2 =>
    (.ite (decide (v2.Bonded < a1))
      (.leaf (v2, 7))
      (.bind (sh_bank_bonded v2) fun v3 =>
      (.bind (sh_bank_waiting ({ (v3 : Bank) with Bonded := IntKind.i64.wrap (v3.Bonded - a1) })) fun v4 =>
      (.leaf ({ (v4 : Bank) with Waiting := IntKind.i64.wrap (v4.Waiting + a1) }, 0)))))))))
noncomputable def sh_bank_move_1 (a0 : Bank) (a1 : Int) : Option (Bank × Int) := (T_bank_move_1 a0 a1).run
noncomputable def qa_bank_move_1 : LQ (Bank × Int) := (LQ.seq (Par.q (Par.ofLP bankL)) (LQ.skip (LQ.const (.fn 85 [])) (LQ.skip (LQ.const (.fn 95 [])) (Par.q intP))))
noncomputable def qr_bank_move_1 : LQ (Bank × Int) := (LQ.seq (Par.q (Par.ofLP bankL)) (Par.q intP))
noncomputable def F_bank_move_1 : SpecT := specF 0 qa_bank_move_1 4 [] (fun s => T_bank_move_1 s.1 s.2) default qr_bank_move_1 2 []
theorem ok_bank_move_1 : SpecOk Try.prog 83 (F_bank_move_1).spec :=
  specF_ok (Y := Y_bank_move_1) (A := A_bank_move_1) hY_bank_move_1 Facts.mix Try.func83 (c := C_bank_move_1) (by kernel_rfl) (Lc := 0) trivial qa_bank_move_1 4 4 [] (fun s => T_bank_move_1 s.1 s.2) default qr_bank_move_1 2 [] [] (by decide) (by kernel_rfl) (by rfl) (by decide) (by decide) (by rfl)
    (by rintro ⟨a0, a1⟩; kernel_rfl)

noncomputable def C_bank_move_2 : Code := Try.f83.body.getD .skip
noncomputable def live_bank_move_2 : List (List Nat) := [[1, 2, 3, 4, 8], [1, 2, 3, 4, 8, 10], [8, 9], [1, 2, 3, 4, 8, 20], [8, 9], [2, 3, 4, 8], [4, 8], [8, 9]]
noncomputable def Y_bank_move_2 : EnvT := ⟨Try.prog, lookT [(58, F_bank_Good), (59, F_ratio_In), (95, F_bank_waiting), (98, F_bank_free_1)]⟩
theorem hY_bank_move_2 : (Y_bank_move_2).Ok := lookT_ok ⟨ok_bank_Good, ok_ratio_In, ok_bank_waiting, ok_bank_free_1, trivial⟩
noncomputable def A_bank_move_2 : Ann := ⟨[], [], [], live_bank_move_2, []⟩
noncomputable def T_bank_move_2 (a0 : Bank) (a1 : Int) (a2 : Int) : Tr (Bank × Int × Int) :=
  (.bind (sh_bank_Good a0) fun v1 =>
  (.guard (((!v1) = false → ((sh_ratio_In a1).isSome = true) ∧ True))
  (.ite ((!v1) || (!((sh_ratio_In a1).getD default)))
    (.leaf (a0, 2, a2))
    (.bind (sh_bank_waiting a0) fun v2 =>
    (.ite (decide (v2.Waiting < a1))
      (.leaf (v2, 7, a2))
      (.bind (sh_bank_waiting v2) fun v3 =>
      (.bind (sh_bank_free_1 ({ (v3 : Bank) with Waiting := IntKind.i64.wrap (v3.Waiting - a1) }) a2) fun v4 =>
      (.leaf ({ (v4.2.1 : Bank) with Free := (v4.2.1.Free.set v4.1 (IntKind.i64.wrap ((v4.2.1.Free.get v4.1) + a1))) }, 0, v4.2.2)))))))))
noncomputable def sh_bank_move_2 (a0 : Bank) (a1 : Int) (a2 : Int) : Option (Bank × Int × Int) := (T_bank_move_2 a0 a1 a2).run
noncomputable def qa_bank_move_2 : LQ (Bank × Int × Int) := (LQ.seq (Par.q (Par.ofLP bankL)) (LQ.skip (LQ.const (.fn 95 [])) (LQ.skip (LQ.const (.fn 98 [.ptr 0 0])) (LQ.seq (Par.q intP) (Par.q intP)))))
noncomputable def qr_bank_move_2 : LQ (Bank × Int × Int) := (LQ.seq (Par.q (Par.ofLP bankL)) (LQ.seq (Par.q intP) (Par.q intP)))
noncomputable def F_bank_move_2 : SpecT := specF 1 qa_bank_move_2 4 [.cells 3 1] (fun s => T_bank_move_2 s.1 s.2.1 s.2.2) default qr_bank_move_2 2 [.cells 3 1]
theorem ok_bank_move_2 : SpecOk Try.prog 83 (F_bank_move_2).spec :=
  specF_ok (Y := Y_bank_move_2) (A := A_bank_move_2) hY_bank_move_2 Facts.mix Try.func83 (c := C_bank_move_2) (by kernel_rfl) (Lc := 1) trivial qa_bank_move_2 4 5 [.cells 3 1] (fun s => T_bank_move_2 s.1 s.2.1 s.2.2) default qr_bank_move_2 2 [.cells 3 1] [] (by decide) (by kernel_rfl) (by rfl) (by decide) (by decide) (by rfl)
    (by rintro ⟨a0, a1, a2⟩; kernel_rfl)

noncomputable def C_bank_move_3 : Code := Try.f83.body.getD .skip
noncomputable def live_bank_move_3 : List (List Nat) := [[1, 2, 3, 4, 8], [1, 2, 3, 4, 8, 10], [8, 9], [1, 2, 3, 4, 8, 20], [8, 9], [2, 3, 4, 8], [4, 8], [8, 9]]
noncomputable def Y_bank_move_3 : EnvT := ⟨Try.prog, lookT [(58, F_bank_Good), (59, F_ratio_In), (85, F_bank_bonded), (96, F_bank_burnt)]⟩
theorem hY_bank_move_3 : (Y_bank_move_3).Ok := lookT_ok ⟨ok_bank_Good, ok_ratio_In, ok_bank_bonded, ok_bank_burnt, trivial⟩
noncomputable def A_bank_move_3 : Ann := ⟨[], [], [], live_bank_move_3, []⟩
noncomputable def T_bank_move_3 (a0 : Bank) (a1 : Int) : Tr (Bank × Int) :=
  (.bind (sh_bank_Good a0) fun v1 =>
  (.guard (((!v1) = false → ((sh_ratio_In a1).isSome = true) ∧ True))
  (.ite ((!v1) || (!((sh_ratio_In a1).getD default)))
    (.leaf (a0, 2))
    (.bind (sh_bank_bonded a0) fun v2 =>
    (.ite (decide (v2.Bonded < a1))
      (.leaf (v2, 7))
      (.bind (sh_bank_bonded v2) fun v3 =>
      (.bind (sh_bank_burnt ({ (v3 : Bank) with Bonded := IntKind.i64.wrap (v3.Bonded - a1) })) fun v4 =>
      (.leaf ({ (v4 : Bank) with Burnt := IntKind.i64.wrap (v4.Burnt + a1) }, 0)))))))))
noncomputable def sh_bank_move_3 (a0 : Bank) (a1 : Int) : Option (Bank × Int) := (T_bank_move_3 a0 a1).run
noncomputable def qa_bank_move_3 : LQ (Bank × Int) := (LQ.seq (Par.q (Par.ofLP bankL)) (LQ.skip (LQ.const (.fn 85 [])) (LQ.skip (LQ.const (.fn 96 [])) (Par.q intP))))
noncomputable def qr_bank_move_3 : LQ (Bank × Int) := (LQ.seq (Par.q (Par.ofLP bankL)) (Par.q intP))
noncomputable def F_bank_move_3 : SpecT := specF 0 qa_bank_move_3 4 [] (fun s => T_bank_move_3 s.1 s.2) default qr_bank_move_3 2 []
theorem ok_bank_move_3 : SpecOk Try.prog 83 (F_bank_move_3).spec :=
  specF_ok (Y := Y_bank_move_3) (A := A_bank_move_3) hY_bank_move_3 Facts.mix Try.func83 (c := C_bank_move_3) (by kernel_rfl) (Lc := 0) trivial qa_bank_move_3 4 4 [] (fun s => T_bank_move_3 s.1 s.2) default qr_bank_move_3 2 [] [] (by decide) (by kernel_rfl) (by rfl) (by decide) (by decide) (by rfl)
    (by rintro ⟨a0, a1⟩; kernel_rfl)

noncomputable def C_bank_move_4 : Code := Try.f83.body.getD .skip
noncomputable def live_bank_move_4 : List (List Nat) := [[1, 2, 3, 4, 8], [1, 2, 3, 4, 8, 10], [8, 9], [1, 2, 3, 4, 8, 20], [8, 9], [2, 3, 4, 8], [4, 8], [8, 9]]
noncomputable def Y_bank_move_4 : EnvT := ⟨Try.prog, lookT [(58, F_bank_Good), (59, F_ratio_In), (95, F_bank_waiting), (96, F_bank_burnt)]⟩
theorem hY_bank_move_4 : (Y_bank_move_4).Ok := lookT_ok ⟨ok_bank_Good, ok_ratio_In, ok_bank_waiting, ok_bank_burnt, trivial⟩
noncomputable def A_bank_move_4 : Ann := ⟨[], [], [], live_bank_move_4, []⟩
noncomputable def T_bank_move_4 (a0 : Bank) (a1 : Int) : Tr (Bank × Int) :=
  (.bind (sh_bank_Good a0) fun v1 =>
  (.guard (((!v1) = false → ((sh_ratio_In a1).isSome = true) ∧ True))
  (.ite ((!v1) || (!((sh_ratio_In a1).getD default)))
    (.leaf (a0, 2))
    (.bind (sh_bank_waiting a0) fun v2 =>
    (.ite (decide (v2.Waiting < a1))
      (.leaf (v2, 7))
      (.bind (sh_bank_waiting v2) fun v3 =>
      (.bind (sh_bank_burnt ({ (v3 : Bank) with Waiting := IntKind.i64.wrap (v3.Waiting - a1) })) fun v4 =>
      (.leaf ({ (v4 : Bank) with Burnt := IntKind.i64.wrap (v4.Burnt + a1) }, 0)))))))))
noncomputable def sh_bank_move_4 (a0 : Bank) (a1 : Int) : Option (Bank × Int) := (T_bank_move_4 a0 a1).run
noncomputable def qa_bank_move_4 : LQ (Bank × Int) := (LQ.seq (Par.q (Par.ofLP bankL)) (LQ.skip (LQ.const (.fn 95 [])) (LQ.skip (LQ.const (.fn 96 [])) (Par.q intP))))
noncomputable def qr_bank_move_4 : LQ (Bank × Int) := (LQ.seq (Par.q (Par.ofLP bankL)) (Par.q intP))
noncomputable def F_bank_move_4 : SpecT := specF 0 qa_bank_move_4 4 [] (fun s => T_bank_move_4 s.1 s.2) default qr_bank_move_4 2 []
theorem ok_bank_move_4 : SpecOk Try.prog 83 (F_bank_move_4).spec :=
  specF_ok (Y := Y_bank_move_4) (A := A_bank_move_4) hY_bank_move_4 Facts.mix Try.func83 (c := C_bank_move_4) (by kernel_rfl) (Lc := 0) trivial qa_bank_move_4 4 4 [] (fun s => T_bank_move_4 s.1 s.2) default qr_bank_move_4 2 [] [] (by decide) (by kernel_rfl) (by rfl) (by decide) (by decide) (by rfl)
    (by rintro ⟨a0, a1⟩; kernel_rfl)

noncomputable def F_bank_move : SpecT := altT F_bank_move_0 (altT F_bank_move_1 (altT F_bank_move_2 (altT F_bank_move_3 (F_bank_move_4))))
theorem ok_bank_move : SpecOk Try.prog 83 (F_bank_move).spec := altT_ok ok_bank_move_0 (altT_ok ok_bank_move_1 (altT_ok ok_bank_move_2 (altT_ok ok_bank_move_3 (ok_bank_move_4))))

noncomputable def C_bank_Bond : Code := Try.f54.body.getD .skip
noncomputable def live_bank_Bond : List (List Nat) := [[1, 2, 3, 6], [1, 2, 3, 6, 10], [6, 7], [6, 7]]
noncomputable def Y_bank_Bond : EnvT := ⟨Try.prog, lookT [(82, F_bank_delegator), (84, F_bank_free), (83, F_bank_move)]⟩
theorem hY_bank_Bond : (Y_bank_Bond).Ok := lookT_ok ⟨ok_bank_delegator, ok_bank_free, ok_bank_move, trivial⟩
noncomputable def A_bank_Bond : Ann := ⟨[], [], [], live_bank_Bond, []⟩
noncomputable def T_bank_Bond (a0 : Bank) (a1 : Int) (a2 : Int) : Tr (Bank × Int) :=
  (.bind (sh_bank_delegator a1) fun v1 =>
  (.ite (!v1)
    (.leaf (a0, 4))
    (.guard ((sh_bank_free a1).isSome = true)
    (.guard ((sh_bank_move_0 a0 a2 ((sh_bank_free a1).getD default)).isSome = true)
    (.leaf ((((sh_bank_move_0 a0 a2 ((sh_bank_free a1).getD default)).getD default).1), ((sh_bank_move_0 a0 a2 ((sh_bank_free a1).getD default)).getD default).2.1))))))
noncomputable def sh_bank_Bond (a0 : Bank) (a1 : Int) (a2 : Int) : Option (Bank × Int) := (T_bank_Bond a0 a1 a2).run
noncomputable def qa_bank_Bond : LQ (Bank × Int × Int) := (LQ.seq (Par.q (Par.ofLP bankL)) (LQ.seq (Par.q intP) (Par.q intP)))
noncomputable def qr_bank_Bond : LQ (Bank × Int) := (LQ.seq (Par.q (Par.ofLP bankL)) (Par.q intP))
noncomputable def F_bank_Bond : SpecT := specF 0 qa_bank_Bond 3 [] (fun s => T_bank_Bond s.1 s.2.1 s.2.2) default qr_bank_Bond 2 []
theorem ok_bank_Bond : SpecOk Try.prog 54 (F_bank_Bond).spec :=
  specF_ok (Y := Y_bank_Bond) (A := A_bank_Bond) hY_bank_Bond Facts.mix Try.func54 (c := C_bank_Bond) (by kernel_rfl) (Lc := 0) trivial qa_bank_Bond 3 5 [] (fun s => T_bank_Bond s.1 s.2.1 s.2.2) default qr_bank_Bond 2 [] [] (by decide) (by kernel_rfl) (by rfl) (by decide) (by decide) (by rfl)
    (by rintro ⟨a0, a1, a2⟩; kernel_rfl)

noncomputable def C_bank_Unbond : Code := Try.f72.body.getD .skip
noncomputable def live_bank_Unbond : List (List Nat) := [[1, 2, 4], [4, 5]]
noncomputable def Y_bank_Unbond : EnvT := ⟨Try.prog, lookT [(83, F_bank_move)]⟩
theorem hY_bank_Unbond : (Y_bank_Unbond).Ok := lookT_ok ⟨ok_bank_move, trivial⟩
noncomputable def A_bank_Unbond : Ann := ⟨[], [], [], live_bank_Unbond, []⟩
noncomputable def T_bank_Unbond (a0 : Bank) (a1 : Int) : Tr (Bank × Int) :=
  (.bind (sh_bank_move_1 a0 a1) fun v2 =>
  (.leaf (v2.1, v2.2)))
noncomputable def sh_bank_Unbond (a0 : Bank) (a1 : Int) : Option (Bank × Int) := (T_bank_Unbond a0 a1).run
noncomputable def qa_bank_Unbond : LQ (Bank × Int) := (LQ.seq (Par.q (Par.ofLP bankL)) (Par.q intP))
noncomputable def qr_bank_Unbond : LQ (Bank × Int) := (LQ.seq (Par.q (Par.ofLP bankL)) (Par.q intP))
noncomputable def F_bank_Unbond : SpecT := specF 0 qa_bank_Unbond 2 [] (fun s => T_bank_Unbond s.1 s.2) default qr_bank_Unbond 2 []
theorem ok_bank_Unbond : SpecOk Try.prog 72 (F_bank_Unbond).spec :=
  specF_ok (Y := Y_bank_Unbond) (A := A_bank_Unbond) hY_bank_Unbond Facts.mix Try.func72 (c := C_bank_Unbond) (by kernel_rfl) (Lc := 0) trivial qa_bank_Unbond 2 4 [] (fun s => T_bank_Unbond s.1 s.2) default qr_bank_Unbond 2 [] [] (by decide) (by kernel_rfl) (by rfl) (by decide) (by decide) (by rfl)
    (by rintro ⟨a0, a1⟩; kernel_rfl)

noncomputable def C_bank_Pay : Code := Try.f68.body.getD .skip
noncomputable def live_bank_Pay : List (List Nat) := [[1, 2, 3, 6], [1, 2, 3, 6, 10], [6, 7], [6, 7]]
noncomputable def Y_bank_Pay : EnvT := ⟨Try.prog, lookT [(82, F_bank_delegator), (84, F_bank_free), (83, F_bank_move)]⟩
theorem hY_bank_Pay : (Y_bank_Pay).Ok := lookT_ok ⟨ok_bank_delegator, ok_bank_free, ok_bank_move, trivial⟩
noncomputable def A_bank_Pay : Ann := ⟨[], [], [], live_bank_Pay, []⟩
noncomputable def T_bank_Pay (a0 : Bank) (a1 : Int) (a2 : Int) : Tr (Bank × Int) :=
  (.bind (sh_bank_delegator a1) fun v1 =>
  (.ite (!v1)
    (.leaf (a0, 4))
    (.guard ((sh_bank_free a1).isSome = true)
    (.guard ((sh_bank_move_2 a0 a2 ((sh_bank_free a1).getD default)).isSome = true)
    (.leaf ((((sh_bank_move_2 a0 a2 ((sh_bank_free a1).getD default)).getD default).1), ((sh_bank_move_2 a0 a2 ((sh_bank_free a1).getD default)).getD default).2.1))))))
noncomputable def sh_bank_Pay (a0 : Bank) (a1 : Int) (a2 : Int) : Option (Bank × Int) := (T_bank_Pay a0 a1 a2).run
noncomputable def qa_bank_Pay : LQ (Bank × Int × Int) := (LQ.seq (Par.q (Par.ofLP bankL)) (LQ.seq (Par.q intP) (Par.q intP)))
noncomputable def qr_bank_Pay : LQ (Bank × Int) := (LQ.seq (Par.q (Par.ofLP bankL)) (Par.q intP))
noncomputable def F_bank_Pay : SpecT := specF 0 qa_bank_Pay 3 [] (fun s => T_bank_Pay s.1 s.2.1 s.2.2) default qr_bank_Pay 2 []
theorem ok_bank_Pay : SpecOk Try.prog 68 (F_bank_Pay).spec :=
  specF_ok (Y := Y_bank_Pay) (A := A_bank_Pay) hY_bank_Pay Facts.mix Try.func68 (c := C_bank_Pay) (by kernel_rfl) (Lc := 0) trivial qa_bank_Pay 3 5 [] (fun s => T_bank_Pay s.1 s.2.1 s.2.2) default qr_bank_Pay 2 [] [] (by decide) (by kernel_rfl) (by rfl) (by decide) (by decide) (by rfl)
    (by rintro ⟨a0, a1, a2⟩; kernel_rfl)

noncomputable def C_bank_Burn : Code := Try.f77.body.getD .skip
noncomputable def live_bank_Burn : List (List Nat) := [[1, 2, 3, 6], [2, 3, 6, 8, 9], [2, 3, 6, 8, 9, 17], [6, 7], [3, 6, 8, 9], [3, 6, 8, 9, 27], [6, 7], [6, 7]]
noncomputable def Y_bank_Burn : EnvT := ⟨Try.prog, lookT [(83, F_bank_move)]⟩
theorem hY_bank_Burn : (Y_bank_Burn).Ok := lookT_ok ⟨ok_bank_move, trivial⟩
noncomputable def A_bank_Burn : Ann := ⟨[], [], [], live_bank_Burn, []⟩
noncomputable def T_bank_Burn (a0 : Bank) (a1 : Int) (a2 : Int) : Tr (Bank × Int) :=
  (.bind (sh_bank_move_3 a0 a1) fun v4 =>
  (.ite (v4.2 != 0)
    (.leaf (a0, v4.2))
    (.bind (sh_bank_move_4 v4.1 a2) fun v9 =>
    (.ite (v9.2 != 0)
      (.leaf (a0, v9.2))
      (.leaf (v9.1, 0))))))
noncomputable def sh_bank_Burn (a0 : Bank) (a1 : Int) (a2 : Int) : Option (Bank × Int) := (T_bank_Burn a0 a1 a2).run
noncomputable def qa_bank_Burn : LQ (Bank × Int × Int) := (LQ.seq (Par.q (Par.ofLP bankL)) (LQ.seq (Par.q intP) (Par.q intP)))
noncomputable def qr_bank_Burn : LQ (Bank × Int) := (LQ.seq (Par.q (Par.ofLP bankL)) (Par.q intP))
noncomputable def F_bank_Burn : SpecT := specF 0 qa_bank_Burn 3 [] (fun s => T_bank_Burn s.1 s.2.1 s.2.2) default qr_bank_Burn 2 []
theorem ok_bank_Burn : SpecOk Try.prog 77 (F_bank_Burn).spec :=
  specF_ok (Y := Y_bank_Burn) (A := A_bank_Burn) hY_bank_Burn Facts.mix Try.func77 (c := C_bank_Burn) (by kernel_rfl) (Lc := 0) trivial qa_bank_Burn 3 5 [] (fun s => T_bank_Burn s.1 s.2.1 s.2.2) default qr_bank_Burn 2 [] [] (by decide) (by kernel_rfl) (by rfl) (by decide) (by decide) (by rfl)
    (by rintro ⟨a0, a1, a2⟩; kernel_rfl)

noncomputable def C_ref_places : Code := Try.f87.body.getD .skip
noncomputable def live_ref_places : List (List Nat) := [[1, 2], [2]]
noncomputable def Y_ref_places : EnvT := ⟨Try.prog, lookT []⟩
theorem hY_ref_places : (Y_ref_places).Ok := lookT_ok trivial
noncomputable def A_ref_places : Ann := ⟨[], [], [], live_ref_places, []⟩
noncomputable def T_ref_places (a0 : Bank) : Tr ((A7 Int)) :=
  (.leaf (⟨a0.Free.x0, a0.Free.x1, a0.Free.x2, a0.Free.x3, a0.Bonded, a0.Waiting, a0.Burnt⟩ : (A7 Int)))
noncomputable def sh_ref_places (a0 : Bank) : Option ((A7 Int)) := (T_ref_places a0).run
noncomputable def qa_ref_places : LQ (Bank) := (Par.q (Par.ofLP bankL))
noncomputable def qr_ref_places : LQ ((A7 Int)) := (Par.q (Par.ofLP (a7L (LP.one intP))))
noncomputable def F_ref_places : SpecT := specF 0 qa_ref_places 1 [] (fun s => T_ref_places s) default qr_ref_places 1 []
theorem ok_ref_places : SpecOk Try.prog 87 (F_ref_places).spec :=
  specF_ok (Y := Y_ref_places) (A := A_ref_places) hY_ref_places Facts.mix Try.func87 (c := C_ref_places) (by kernel_rfl) (Lc := 0) trivial qa_ref_places 1 4 [] (fun s => T_ref_places s) default qr_ref_places 1 [] [] (by decide) (by kernel_rfl) (by rfl) (by decide) (by decide) (by rfl)
    (by rintro a0; kernel_rfl)

noncomputable def C_ref_banked : Code := Try.f88.body.getD .skip
noncomputable def live_ref_banked : List (List Nat) := [[1, 2], [2]]
noncomputable def Y_ref_banked : EnvT := ⟨Try.prog, lookT []⟩
theorem hY_ref_banked : (Y_ref_banked).Ok := lookT_ok trivial
noncomputable def A_ref_banked : Ann := ⟨[], [], [], live_ref_banked, []⟩
noncomputable def T_ref_banked (a0 : (A7 Int)) : Tr (Bank) :=
  (.leaf (⟨(⟨a0.x0, a0.x1, a0.x2, a0.x3⟩ : (A4 Int)), a0.x4, a0.x5, a0.x6⟩ : Bank))
noncomputable def sh_ref_banked (a0 : (A7 Int)) : Option (Bank) := (T_ref_banked a0).run
noncomputable def qa_ref_banked : LQ ((A7 Int)) := (Par.q (Par.ofLP (a7L (LP.one intP))))
noncomputable def qr_ref_banked : LQ (Bank) := (Par.q (Par.ofLP bankL))
noncomputable def F_ref_banked : SpecT := specF 0 qa_ref_banked 1 [] (fun s => T_ref_banked s) default qr_ref_banked 1 []
theorem ok_ref_banked : SpecOk Try.prog 88 (F_ref_banked).spec :=
  specF_ok (Y := Y_ref_banked) (A := A_ref_banked) hY_ref_banked Facts.mix Try.func88 (c := C_ref_banked) (by kernel_rfl) (Lc := 0) trivial qa_ref_banked 1 4 [] (fun s => T_ref_banked s) default qr_ref_banked 1 [] [] (by decide) (by kernel_rfl) (by rfl) (by decide) (by decide) (by rfl)
    (by rintro a0; kernel_rfl)

noncomputable def C_ref_NewBank : Code := Try.f63.body.getD .skip
noncomputable def live_ref_NewBank : List (List Nat) := [[0], [0]]
noncomputable def Y_ref_NewBank : EnvT := ⟨Try.prog, lookT [(88, F_ref_banked)]⟩
theorem hY_ref_NewBank : (Y_ref_NewBank).Ok := lookT_ok ⟨ok_ref_banked, trivial⟩
noncomputable def A_ref_NewBank : Ann := ⟨[], [], [], live_ref_NewBank, []⟩
noncomputable def T_ref_NewBank  : Tr (Bank) :=
  (.bind (sh_ref_banked (⟨100000, 100000, 100000, 100000, 0, 0, 0⟩ : (A7 Int))) fun v1 =>
  (.leaf v1))
noncomputable def sh_ref_NewBank  : Option (Bank) := (T_ref_NewBank ).run
noncomputable def qa_ref_NewBank : LQ (Unit) := LQ.nil
noncomputable def qr_ref_NewBank : LQ (Bank) := (Par.q (Par.ofLP bankL))
noncomputable def F_ref_NewBank : SpecT := specF 0 qa_ref_NewBank 0 [] (fun s => T_ref_NewBank ) default qr_ref_NewBank 1 []
theorem ok_ref_NewBank : SpecOk Try.prog 63 (F_ref_NewBank).spec :=
  specF_ok (Y := Y_ref_NewBank) (A := A_ref_NewBank) hY_ref_NewBank Facts.mix Try.func63 (c := C_ref_NewBank) (by kernel_rfl) (Lc := 0) trivial qa_ref_NewBank 0 3 [] (fun s => T_ref_NewBank ) default qr_ref_NewBank 1 [] [] (by decide) (by kernel_rfl) (by rfl) (by decide) (by decide) (by rfl)
    (by rintro _; kernel_rfl)

noncomputable def C_ref_GoodBank : Code := Try.f60.body.getD .skip
noncomputable def live_ref_GoodBank : List (List Nat) := [[1], [1, 3], [3, 7, 8], [3, 7, 8, 9], [3, 5, 7, 8], [3, 5, 7, 8, 16], [2], [3, 7, 8], [3, 7, 8], [2]]
noncomputable def Y_ref_GoodBank : EnvT := ⟨Try.prog, lookT [(87, F_ref_places)]⟩
theorem hY_ref_GoodBank : (Y_ref_GoodBank).Ok := lookT_ok ⟨ok_ref_places, trivial⟩
noncomputable def A_ref_GoodBank : Ann := ⟨[], [([0, 1, 0, 1, 1], 8)], [[0, 1, 2, 0, 1, 0, 1, 1], [0, 1, 3, 0, 1, 0, 1, 1], [0, 1, 4, 0, 1, 0, 1, 1], [0, 1, 5, 0, 1, 0, 1, 1], [0, 1, 6, 0, 1, 0, 1, 1], [0, 1, 7, 0, 1, 0, 1, 1], [0, 1, 8, 0, 1, 0, 1, 1], [0, 1, 9, 0, 1, 0, 1, 1]], live_ref_GoodBank, []⟩
noncomputable def T_ref_GoodBank (a0 : Bank) : Tr (Bool) :=
  (.bind (sh_ref_places a0) fun v1 =>
  (.guard ((0 : Int) ≤ 0 ∧ (0 : Int) < 7)
  (.ite ((decide (v1.x0 < 0)) || (decide (v1.x0 > 400000)))
    (.leaf false)
    (.guard ((0 : Int) ≤ 1 ∧ (1 : Int) < 7)
    (.ite ((decide (v1.x1 < 0)) || (decide (v1.x1 > 400000)))
      (.leaf false)
      (.guard ((0 : Int) ≤ 2 ∧ (2 : Int) < 7)
      (.ite ((decide (v1.x2 < 0)) || (decide (v1.x2 > 400000)))
        (.leaf false)
        (.guard ((0 : Int) ≤ 3 ∧ (3 : Int) < 7)
        (.ite ((decide (v1.x3 < 0)) || (decide (v1.x3 > 400000)))
          (.leaf false)
          (.guard ((0 : Int) ≤ 4 ∧ (4 : Int) < 7)
          (.ite ((decide (v1.x4 < 0)) || (decide (v1.x4 > 400000)))
            (.leaf false)
            (.guard ((0 : Int) ≤ 5 ∧ (5 : Int) < 7)
            (.ite ((decide (v1.x5 < 0)) || (decide (v1.x5 > 400000)))
              (.leaf false)
              (.guard ((0 : Int) ≤ 6 ∧ (6 : Int) < 7)
              (.ite ((decide (v1.x6 < 0)) || (decide (v1.x6 > 400000)))
                (.leaf false)
                (.leaf ((IntKind.i64.wrap ((IntKind.i64.wrap ((IntKind.i64.wrap ((IntKind.i64.wrap ((IntKind.i64.wrap ((IntKind.i64.wrap ((IntKind.i64.wrap (0 + v1.x0)) + v1.x1)) + v1.x2)) + v1.x3)) + v1.x4)) + v1.x5)) + v1.x6)) == 400000)))))))))))))))))
noncomputable def sh_ref_GoodBank (a0 : Bank) : Option (Bool) := (T_ref_GoodBank a0).run
noncomputable def qa_ref_GoodBank : LQ (Bank) := (Par.q (Par.ofLP bankL))
noncomputable def qr_ref_GoodBank : LQ (Bool) := (Par.q boolP)
noncomputable def F_ref_GoodBank : SpecT := specF 0 qa_ref_GoodBank 1 [] (fun s => T_ref_GoodBank s) default qr_ref_GoodBank 1 []
theorem ok_ref_GoodBank : SpecOk Try.prog 60 (F_ref_GoodBank).spec :=
  specF_ok (Y := Y_ref_GoodBank) (A := A_ref_GoodBank) hY_ref_GoodBank Facts.mix Try.func60 (c := C_ref_GoodBank) (by kernel_rfl) (Lc := 0) trivial qa_ref_GoodBank 1 3 [] (fun s => T_ref_GoodBank s) default qr_ref_GoodBank 1 [] [] (by decide) (by kernel_rfl) (by rfl) (by decide) (by decide) (by rfl)
    (by rintro a0; kernel_rfl)

noncomputable def C_ref_Move : Code := Try.f86.body.getD .skip
noncomputable def live_ref_Move : List (List Nat) := [[1, 2, 3, 4, 8], [1, 2, 3, 4, 8, 18], [8, 9], [1, 2, 3, 4, 8, 10], [1, 2, 3, 4, 8, 10, 26], [8, 9], [2, 3, 8, 10], [8, 10], [8, 9]]
noncomputable def Y_ref_Move : EnvT := ⟨Try.prog, lookT [(60, F_ref_GoodBank), (61, F_ref_In), (87, F_ref_places), (88, F_ref_banked)]⟩
theorem hY_ref_Move : (Y_ref_Move).Ok := lookT_ok ⟨ok_ref_GoodBank, ok_ref_In, ok_ref_places, ok_ref_banked, trivial⟩
noncomputable def A_ref_Move : Ann := ⟨[], [], [], live_ref_Move, []⟩
noncomputable def T_ref_Move (a0 : Bank) (a1 : Int) (a2 : Int) (a3 : Int) : Tr (Bank × Int) :=
  (.bind (sh_ref_GoodBank a0) fun v1 =>
  (.guard (((!v1) = false → ((sh_ref_In a3).isSome = true) ∧ True))
  (.ite ((!v1) || (!((sh_ref_In a3).getD default)))
    (.leaf (a0, 2))
    (.bind (sh_ref_places a0) fun v2 =>
    (.guard ((0 : Int) ≤ a1 ∧ (a1 : Int) < 7)
    (.ite (decide ((v2.get a1) < a3))
      (.leaf (a0, 7))
      (.guard ((0 : Int) ≤ a1 ∧ (a1 : Int) < 7)
      (.guard ((0 : Int) ≤ a1 ∧ (a1 : Int) < 7)
      (.guard ((0 : Int) ≤ a2 ∧ (a2 : Int) < 7)
      (.guard ((0 : Int) ≤ a2 ∧ (a2 : Int) < 7)
      (.bind (sh_ref_banked ((v2.set a1 (IntKind.i64.wrap ((v2.get a1) - a3))).set a2 (IntKind.i64.wrap (((v2.set a1 (IntKind.i64.wrap ((v2.get a1) - a3))).get a2) + a3)))) fun v3 =>
      (.leaf (v3, 0)))))))))))))
noncomputable def sh_ref_Move (a0 : Bank) (a1 : Int) (a2 : Int) (a3 : Int) : Option (Bank × Int) := (T_ref_Move a0 a1 a2 a3).run
noncomputable def qa_ref_Move : LQ (Bank × Int × Int × Int) := (LQ.seq (Par.q (Par.ofLP bankL)) (LQ.seq (Par.q intP) (LQ.seq (Par.q intP) (Par.q intP))))
noncomputable def qr_ref_Move : LQ (Bank × Int) := (LQ.seq (Par.q (Par.ofLP bankL)) (Par.q intP))
noncomputable def F_ref_Move : SpecT := specF 0 qa_ref_Move 4 [] (fun s => T_ref_Move s.1 s.2.1 s.2.2.1 s.2.2.2) default qr_ref_Move 2 []
theorem ok_ref_Move : SpecOk Try.prog 86 (F_ref_Move).spec :=
  specF_ok (Y := Y_ref_Move) (A := A_ref_Move) hY_ref_Move Facts.mix Try.func86 (c := C_ref_Move) (by kernel_rfl) (Lc := 0) trivial qa_ref_Move 4 5 [] (fun s => T_ref_Move s.1 s.2.1 s.2.2.1 s.2.2.2) default qr_ref_Move 2 [] [] (by decide) (by kernel_rfl) (by rfl) (by decide) (by decide) (by rfl)
    (by rintro ⟨a0, a1, a2, a3⟩; kernel_rfl)

noncomputable def C_ref_Bond : Code := Try.f57.body.getD .skip
noncomputable def live_ref_Bond : List (List Nat) := [[1, 2, 3, 6], [1, 2, 3, 6, 13], [6, 7], [6, 7]]
noncomputable def Y_ref_Bond : EnvT := ⟨Try.prog, lookT [(86, F_ref_Move)]⟩
theorem hY_ref_Bond : (Y_ref_Bond).Ok := lookT_ok ⟨ok_ref_Move, trivial⟩
noncomputable def A_ref_Bond : Ann := ⟨[], [], [], live_ref_Bond, []⟩
noncomputable def T_ref_Bond (a0 : Bank) (a1 : Int) (a2 : Int) : Tr (Bank × Int) :=
  (.ite ((decide (a1 < 0)) || (decide (a1 > 3)))
    (.leaf (a0, 4))
    (.bind (sh_ref_Move a0 a1 4 a2) fun v1 =>
    (.leaf (v1.1, v1.2))))
noncomputable def sh_ref_Bond (a0 : Bank) (a1 : Int) (a2 : Int) : Option (Bank × Int) := (T_ref_Bond a0 a1 a2).run
noncomputable def qa_ref_Bond : LQ (Bank × Int × Int) := (LQ.seq (Par.q (Par.ofLP bankL)) (LQ.seq (Par.q intP) (Par.q intP)))
noncomputable def qr_ref_Bond : LQ (Bank × Int) := (LQ.seq (Par.q (Par.ofLP bankL)) (Par.q intP))
noncomputable def F_ref_Bond : SpecT := specF 0 qa_ref_Bond 3 [] (fun s => T_ref_Bond s.1 s.2.1 s.2.2) default qr_ref_Bond 2 []
theorem ok_ref_Bond : SpecOk Try.prog 57 (F_ref_Bond).spec :=
  specF_ok (Y := Y_ref_Bond) (A := A_ref_Bond) hY_ref_Bond Facts.mix Try.func57 (c := C_ref_Bond) (by kernel_rfl) (Lc := 0) trivial qa_ref_Bond 3 4 [] (fun s => T_ref_Bond s.1 s.2.1 s.2.2) default qr_ref_Bond 2 [] [] (by decide) (by kernel_rfl) (by rfl) (by decide) (by decide) (by rfl)
    (by rintro ⟨a0, a1, a2⟩; kernel_rfl)

noncomputable def C_ref_Unbond : Code := Try.f74.body.getD .skip
noncomputable def live_ref_Unbond : List (List Nat) := [[1, 2, 4], [4, 5]]
noncomputable def Y_ref_Unbond : EnvT := ⟨Try.prog, lookT [(86, F_ref_Move)]⟩
theorem hY_ref_Unbond : (Y_ref_Unbond).Ok := lookT_ok ⟨ok_ref_Move, trivial⟩
noncomputable def A_ref_Unbond : Ann := ⟨[], [], [], live_ref_Unbond, []⟩
noncomputable def T_ref_Unbond (a0 : Bank) (a1 : Int) : Tr (Bank × Int) :=
  (.bind (sh_ref_Move a0 4 5 a1) fun v1 =>
  (.leaf (v1.1, v1.2)))
noncomputable def sh_ref_Unbond (a0 : Bank) (a1 : Int) : Option (Bank × Int) := (T_ref_Unbond a0 a1).run
noncomputable def qa_ref_Unbond : LQ (Bank × Int) := (LQ.seq (Par.q (Par.ofLP bankL)) (Par.q intP))
noncomputable def qr_ref_Unbond : LQ (Bank × Int) := (LQ.seq (Par.q (Par.ofLP bankL)) (Par.q intP))
noncomputable def F_ref_Unbond : SpecT := specF 0 qa_ref_Unbond 2 [] (fun s => T_ref_Unbond s.1 s.2) default qr_ref_Unbond 2 []
theorem ok_ref_Unbond : SpecOk Try.prog 74 (F_ref_Unbond).spec :=
  specF_ok (Y := Y_ref_Unbond) (A := A_ref_Unbond) hY_ref_Unbond Facts.mix Try.func74 (c := C_ref_Unbond) (by kernel_rfl) (Lc := 0) trivial qa_ref_Unbond 2 4 [] (fun s => T_ref_Unbond s.1 s.2) default qr_ref_Unbond 2 [] [] (by decide) (by kernel_rfl) (by rfl) (by decide) (by decide) (by rfl)
    (by rintro ⟨a0, a1⟩; kernel_rfl)

noncomputable def C_ref_Pay : Code := Try.f75.body.getD .skip
noncomputable def live_ref_Pay : List (List Nat) := [[1, 2, 3, 6], [1, 2, 3, 6, 13], [6, 7], [6, 7]]
noncomputable def Y_ref_Pay : EnvT := ⟨Try.prog, lookT [(86, F_ref_Move)]⟩
theorem hY_ref_Pay : (Y_ref_Pay).Ok := lookT_ok ⟨ok_ref_Move, trivial⟩
noncomputable def A_ref_Pay : Ann := ⟨[], [], [], live_ref_Pay, []⟩
noncomputable def T_ref_Pay (a0 : Bank) (a1 : Int) (a2 : Int) : Tr (Bank × Int) :=
  (.ite ((decide (a1 < 0)) || (decide (a1 > 3)))
    (.leaf (a0, 4))
    (.bind (sh_ref_Move a0 5 a1 a2) fun v1 =>
    (.leaf (v1.1, v1.2))))
noncomputable def sh_ref_Pay (a0 : Bank) (a1 : Int) (a2 : Int) : Option (Bank × Int) := (T_ref_Pay a0 a1 a2).run
noncomputable def qa_ref_Pay : LQ (Bank × Int × Int) := (LQ.seq (Par.q (Par.ofLP bankL)) (LQ.seq (Par.q intP) (Par.q intP)))
noncomputable def qr_ref_Pay : LQ (Bank × Int) := (LQ.seq (Par.q (Par.ofLP bankL)) (Par.q intP))
noncomputable def F_ref_Pay : SpecT := specF 0 qa_ref_Pay 3 [] (fun s => T_ref_Pay s.1 s.2.1 s.2.2) default qr_ref_Pay 2 []
theorem ok_ref_Pay : SpecOk Try.prog 75 (F_ref_Pay).spec :=
  specF_ok (Y := Y_ref_Pay) (A := A_ref_Pay) hY_ref_Pay Facts.mix Try.func75 (c := C_ref_Pay) (by kernel_rfl) (Lc := 0) trivial qa_ref_Pay 3 4 [] (fun s => T_ref_Pay s.1 s.2.1 s.2.2) default qr_ref_Pay 2 [] [] (by decide) (by kernel_rfl) (by rfl) (by decide) (by decide) (by rfl)
    (by rintro ⟨a0, a1, a2⟩; kernel_rfl)

noncomputable def C_ref_Burn : Code := Try.f79.body.getD .skip
noncomputable def live_ref_Burn : List (List Nat) := [[1, 2, 3, 6], [2, 3, 6, 8, 9], [2, 3, 6, 8, 9, 17], [6, 7], [3, 6, 8, 9], [3, 6, 8, 9, 27], [6, 7], [6, 7]]
noncomputable def Y_ref_Burn : EnvT := ⟨Try.prog, lookT [(86, F_ref_Move)]⟩
theorem hY_ref_Burn : (Y_ref_Burn).Ok := lookT_ok ⟨ok_ref_Move, trivial⟩
noncomputable def A_ref_Burn : Ann := ⟨[], [], [], live_ref_Burn, []⟩
noncomputable def T_ref_Burn (a0 : Bank) (a1 : Int) (a2 : Int) : Tr (Bank × Int) :=
  (.bind (sh_ref_Move a0 4 6 a1) fun v1 =>
  (.ite (v1.2 != 0)
    (.leaf (a0, v1.2))
    (.bind (sh_ref_Move v1.1 5 6 a2) fun v2 =>
    (.ite (v2.2 != 0)
      (.leaf (a0, v2.2))
      (.leaf (v2.1, 0))))))
noncomputable def sh_ref_Burn (a0 : Bank) (a1 : Int) (a2 : Int) : Option (Bank × Int) := (T_ref_Burn a0 a1 a2).run
noncomputable def qa_ref_Burn : LQ (Bank × Int × Int) := (LQ.seq (Par.q (Par.ofLP bankL)) (LQ.seq (Par.q intP) (Par.q intP)))
noncomputable def qr_ref_Burn : LQ (Bank × Int) := (LQ.seq (Par.q (Par.ofLP bankL)) (Par.q intP))
noncomputable def F_ref_Burn : SpecT := specF 0 qa_ref_Burn 3 [] (fun s => T_ref_Burn s.1 s.2.1 s.2.2) default qr_ref_Burn 2 []
theorem ok_ref_Burn : SpecOk Try.prog 79 (F_ref_Burn).spec :=
  specF_ok (Y := Y_ref_Burn) (A := A_ref_Burn) hY_ref_Burn Facts.mix Try.func79 (c := C_ref_Burn) (by kernel_rfl) (Lc := 0) trivial qa_ref_Burn 3 5 [] (fun s => T_ref_Burn s.1 s.2.1 s.2.2) default qr_ref_Burn 2 [] [] (by decide) (by kernel_rfl) (by rfl) (by decide) (by decide) (by rfl)
    (by rintro ⟨a0, a1, a2⟩; kernel_rfl)

end Go.Proofs.Ytbpehnghffljiaa.Ab
