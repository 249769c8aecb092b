/-
  The functions, each by its tree.
-/
import Derived.Test.YthhdljniheaeoaaFacts
import Derived.Test.YthhdljniheaeoaaAbStructs
import Derived.Test.YthhdljniheaeoaaAbFun
import Derived.Test.YthhdljniheaeoaaFLine
namespace Go.Proofs.Ythhdljniheaeoaa.Ab
open Go Go.RowKit
set_option maxRecDepth 100000
set_option linter.unusedVariables false
set_option linter.unusedSimpArgs false

noncomputable def C_codec_powers : Code := Try.f68.body.getD .skip
noncomputable def live_codec_powers : List (List Nat) := [[0, 1], [0, 1, 7, 8, 9], [0, 1, 7, 8, 9, 10], [0, 1, 5, 6, 7, 8, 9], [0, 1, 7, 8, 9, 47], [4], [0, 1, 7, 8, 9], [4]]
noncomputable def Y_codec_powers : EnvT := ⟨Try.prog, lookT []⟩
theorem hY_codec_powers : (Y_codec_powers).Ok := lookT_ok trivial
noncomputable def T_codec_powers_l1 (x0 : (List Power)) (x1 : Int) (x2 : (List Power)) (x3 : Int) (x4 : Int) : Tr (((List Power) × Int × (List Power) × Int × Int) ⊕ ((Bool) ⊕ (Unit))) :=
  (.ite (decide (x4 < x3))
    (.guard ((0 : Int) ≤ x4 ∧ x4 < ((Sl.len (.powers x2) : Nat) : Int))
    (.guard (((decide (x4 > 0)) = true → (((decide (((x2.getD x4.toNat default).V) < 0)) || (decide (((x2.getD x4.toNat default).V) ≥ 6))) = false → ((0 : Int) ≤ (IntKind.i64.wrap (x4 - 1)) ∧ (IntKind.i64.wrap (x4 - 1)) < ((Sl.len (.powers x0) : Nat) : Int)) ∧ True)))
    (.ite (((((decide (((x2.getD x4.toNat default).V) < 0)) || (decide (((x2.getD x4.toNat default).V) ≥ 6))) || ((decide (x4 > 0)) && (decide (((x0.getD ((IntKind.i64.wrap (x4 - 1)).toNat) default).V) ≥ ((x2.getD x4.toNat default).V))))) || (decide (((x2.getD x4.toNat default).N) < x1))) || (decide (((x2.getD x4.toNat default).N) > 1125899906842624)))
      (.leaf (.inr (.inl false)))
      (.leaf (.inl (x0, x1, x2, x3, IntKind.i64.wrap (x4 + 1)))))))
    (.leaf (.inr (.inr ()))))
noncomputable def sh_codec_powers_l1 (x0 : (List Power)) (x1 : Int) (x2 : (List Power)) (x3 : Int) (x4 : Int) : Option ((Bool) ⊕ (Unit)) := iter (fun s : (List Power) × Int × (List Power) × Int × Int => (T_codec_powers_l1 s.1 s.2.1 s.2.2.1 s.2.2.2.1 s.2.2.2.2).run) (x0, x1, x2, x3, x4)
noncomputable def A_codec_powers_l1 : Ann := ⟨[], [], [], live_codec_powers, []⟩
noncomputable def q_codec_powers_l1 : LQ ((List Power) × Int × (List Power) × Int × Int) := (LQ.seq (Par.q powersP) (LQ.seq (Par.q intP) (LQ.seq (Par.q powersP) (LQ.seq (Par.q intP) (Par.q intP)))))
noncomputable def p_codec_powers_l1 : Pat := ⟨[0, 1, 7, 8, 9], [.pub 0, .nilsl 0 (.powers []), .pub 7, .nilsl 7 (.powers [])]⟩
noncomputable def s_codec_powers_l1 : List BS := []
noncomputable def q_codec_powers_l1_e0 : LQ (Bool) := (Par.q boolP)
noncomputable def p_codec_powers_l1_e0 : Pat := ⟨[4], []⟩
noncomputable def s_codec_powers_l1_e0 : List BS := []
noncomputable def q_codec_powers_l1_e1 : LQ (Unit) := LQ.nil
noncomputable def p_codec_powers_l1_e1 : Pat := ⟨[], []⟩
noncomputable def s_codec_powers_l1_e1 : List BS := []
noncomputable def L_codec_powers_l1 : St → Option LR := pieceL q_codec_powers_l1 49 0 p_codec_powers_l1 s_codec_powers_l1 (fun o => LR.two o (fun r => (.ret, stP q_codec_powers_l1_e0 49 3 p_codec_powers_l1_e0 s_codec_powers_l1_e0 r)) (fun r => (.exit 0, stP q_codec_powers_l1_e1 49 3 p_codec_powers_l1_e1 s_codec_powers_l1_e1 r))) (fun a => iter (fun s : (List Power) × Int × (List Power) × Int × Int => (T_codec_powers_l1 s.1 s.2.1 s.2.2.1 s.2.2.2.1 s.2.2.2.2).run) a)
noncomputable def E_codec_powers_l1 : Exit → Option (End (((List Power) × Int × (List Power) × Int × Int) ⊕ ((Bool) ⊕ (Unit))))
  | .normal => some ⟨_, q_codec_powers_l1, p_codec_powers_l1, s_codec_powers_l1, fun b => .inl b⟩
  | .ret => some ⟨_, q_codec_powers_l1_e0, p_codec_powers_l1_e0, s_codec_powers_l1_e0, fun b => .inr (.inl b)⟩
  | .exit 0 => some ⟨_, q_codec_powers_l1_e1, p_codec_powers_l1_e1, s_codec_powers_l1_e1, fun b => .inr (.inr b)⟩
  | _ => none
noncomputable def O_codec_powers_l1 : (((List Power) × Int × (List Power) × Int × Int) ⊕ ((Bool) ⊕ (Unit))) → Exit × St
  | .inl b => (.normal, stP q_codec_powers_l1 49 3 p_codec_powers_l1 s_codec_powers_l1 b)
  | .inr (.inl b) => (.ret, stP q_codec_powers_l1_e0 49 3 p_codec_powers_l1_e0 s_codec_powers_l1_e0 b)
  | .inr (.inr b) => (.exit 0, stP q_codec_powers_l1_e1 49 3 p_codec_powers_l1_e1 s_codec_powers_l1_e1 b)
theorem lok_codec_powers_l1 : PieceOk (Y_codec_powers).env 0 (sub C_codec_powers [0, 1, 0, 1]) L_codec_powers_l1 :=
  loop_ok (Y := Y_codec_powers) (A := A_codec_powers_l1) hY_codec_powers Facts.mix (root := C_codec_powers) (L := 0) trivial (π := [0, 1, 0, 1]) (c := loopB (sub C_codec_powers [0, 1, 0, 1])) (by kernel_rfl) q_codec_powers_l1 49 3 p_codec_powers_l1 s_codec_powers_l1 E_codec_powers_l1 (fun s => T_codec_powers_l1 s.1 s.2.1 s.2.2.1 s.2.2.2.1 s.2.2.2.2) O_codec_powers_l1 (by intro e d h b; unfold E_codec_powers_l1 at h; split at h <;> first | (cases h; rfl) | cases h) (fun _ => rfl) (by intro r; cases r <;> exact (fun h => by cases h)) (fun o => LR.two o (fun r => (.ret, stP q_codec_powers_l1_e0 49 3 p_codec_powers_l1_e0 s_codec_powers_l1_e0 r)) (fun r => (.exit 0, stP q_codec_powers_l1_e1 49 3 p_codec_powers_l1_e1 s_codec_powers_l1_e1 r))) (by intro o Q h; exact Or.elim h (fun ⟨v, h1, h2⟩ => ⟨_, h1, h2⟩) (fun ⟨v, h1, h2⟩ => ⟨_, h1, h2⟩))
    (by rintro ⟨x0, x1, x2, x3, x4⟩; kernel_rfl)
noncomputable def A_codec_powers : Ann := ⟨[([0, 1, 0, 1], L_codec_powers_l1)], [], [], live_codec_powers, []⟩
noncomputable def T_codec_powers (a0 : (List Power)) (a1 : Int) : Tr (Bool) :=
  (.two (sh_codec_powers_l1 a0 a1 a0 ((a0.length : Nat) : Int) 0) (fun v1 =>
    (.leaf v1)) (fun v2 =>
    (.leaf true)))
noncomputable def sh_codec_powers (a0 : (List Power)) (a1 : Int) : Option (Bool) := (T_codec_powers a0 a1).run
noncomputable def qa_codec_powers : LQ ((List Power) × Int) := (LQ.seq (Par.q powersP) (Par.q intP))
noncomputable def qr_codec_powers : LQ (Bool) := (Par.q boolP)
noncomputable def F_codec_powers : SpecT := specF 0 qa_codec_powers 2 [] (fun s => T_codec_powers s.1 s.2) default qr_codec_powers 1 []
theorem ok_codec_powers : SpecOk Try.prog 68 (F_codec_powers).spec :=
  specF_ok (Y := Y_codec_powers) (A := A_codec_powers) hY_codec_powers Facts.mix Try.func68 (c := C_codec_powers) (by kernel_rfl) (Lc := 0) ⟨lok_codec_powers_l1, trivial⟩ qa_codec_powers 2 3 [] (fun s => T_codec_powers s.1 s.2) default qr_codec_powers 1 [] [] (by decide) (by kernel_rfl) (by rfl) (by decide) (by decide) (by rfl)
    (by rintro ⟨a0, a1⟩; kernel_rfl)

noncomputable def C_codec_Good : Code := Try.f53.body.getD .skip
noncomputable def live_codec_Good : List (List Nat) := [[1], [1, 5], [2], [1, 14], [2], [1, 23], [2], [1, 47], [2], [1, 76], [2], [1, 82, 83, 84], [1, 82, 83, 84, 85], [1, 3, 4, 82, 83, 84], [1, 82, 83, 84, 108], [2], [1, 82, 83, 84], [2]]
noncomputable def Y_codec_Good : EnvT := ⟨Try.prog, lookT [(68, F_codec_powers)]⟩
theorem hY_codec_Good : (Y_codec_Good).Ok := lookT_ok ⟨ok_codec_powers, trivial⟩
noncomputable def T_codec_Good_l1 (x0 : (List Int)) (x1 : Int) (x2 : Int) (x3 : Packet) : Tr (((List Int) × Int × Int × Packet) ⊕ ((Int) ⊕ (Unit))) :=
  (.ite (decide (x2 < x1))
    (.guard ((0 : Int) ≤ x2 ∧ x2 < ((Sl.len (.ints x0) : Nat) : Int))
    (.guard (((decide (x2 > 0)) = true → (((decide ((x0.getD x2.toNat 0) < 0)) || (decide ((x0.getD x2.toNat 0) ≥ 6))) = false → ((0 : Int) ≤ (IntKind.i64.wrap (x2 - 1)) ∧ (IntKind.i64.wrap (x2 - 1)) < ((Sl.len (.ints x3.Done) : Nat) : Int)) ∧ True)))
    (.ite (((decide ((x0.getD x2.toNat 0) < 0)) || (decide ((x0.getD x2.toNat 0) ≥ 6))) || ((decide (x2 > 0)) && (decide ((x3.Done.getD ((IntKind.i64.wrap (x2 - 1)).toNat) 0) ≥ (x0.getD x2.toNat 0)))))
      (.leaf (.inr (.inl 2)))
      (.leaf (.inl (x0, x1, IntKind.i64.wrap (x2 + 1), x3))))))
    (.leaf (.inr (.inr ()))))
noncomputable def sh_codec_Good_l1 (x0 : (List Int)) (x1 : Int) (x2 : Int) (x3 : Packet) : Option ((Int) ⊕ (Unit)) := iter (fun s : (List Int) × Int × Int × Packet => (T_codec_Good_l1 s.1 s.2.1 s.2.2.1 s.2.2.2).run) (x0, x1, x2, x3)
noncomputable def A_codec_Good_l1 : Ann := ⟨[], [], [], live_codec_Good, []⟩
noncomputable def q_codec_Good_l1 : LQ ((List Int) × Int × Int × Packet) := (LQ.skip (LQ.const (.ptr 0 0)) (LQ.seq (Par.q intsP) (LQ.seq (Par.q intP) (LQ.seq (Par.q intP) (LP.q packetL)))))
noncomputable def p_codec_Good_l1 : Pat := ⟨[1, 82, 83, 84], [.pub 82, .nilsl 82 (.ints [])]⟩
noncomputable def s_codec_Good_l1 : List BS := [.cells 56 6]
noncomputable def q_codec_Good_l1_e0 : LQ (Int) := (Par.q intP)
noncomputable def p_codec_Good_l1_e0 : Pat := ⟨[2], []⟩
noncomputable def s_codec_Good_l1_e0 : List BS := []
noncomputable def q_codec_Good_l1_e1 : LQ (Unit) := LQ.nil
noncomputable def p_codec_Good_l1_e1 : Pat := ⟨[], []⟩
noncomputable def s_codec_Good_l1_e1 : List BS := []
noncomputable def L_codec_Good_l1 : St → Option LR := pieceL q_codec_Good_l1 110 0 p_codec_Good_l1 s_codec_Good_l1 (fun o => LR.two o (fun r => (.ret, stP q_codec_Good_l1_e0 110 3 p_codec_Good_l1_e0 s_codec_Good_l1_e0 r)) (fun r => (.exit 1, stP q_codec_Good_l1_e1 110 3 p_codec_Good_l1_e1 s_codec_Good_l1_e1 r))) (fun a => iter (fun s : (List Int) × Int × Int × Packet => (T_codec_Good_l1 s.1 s.2.1 s.2.2.1 s.2.2.2).run) a)
noncomputable def E_codec_Good_l1 : Exit → Option (End (((List Int) × Int × Int × Packet) ⊕ ((Int) ⊕ (Unit))))
  | .normal => some ⟨_, q_codec_Good_l1, p_codec_Good_l1, s_codec_Good_l1, fun b => .inl b⟩
  | .ret => some ⟨_, q_codec_Good_l1_e0, p_codec_Good_l1_e0, s_codec_Good_l1_e0, fun b => .inr (.inl b)⟩
  | .exit 1 => some ⟨_, q_codec_Good_l1_e1, p_codec_Good_l1_e1, s_codec_Good_l1_e1, fun b => .inr (.inr b)⟩
  | _ => none
noncomputable def O_codec_Good_l1 : (((List Int) × Int × Int × Packet) ⊕ ((Int) ⊕ (Unit))) → Exit × St
  | .inl b => (.normal, stP q_codec_Good_l1 110 3 p_codec_Good_l1 s_codec_Good_l1 b)
  | .inr (.inl b) => (.ret, stP q_codec_Good_l1_e0 110 3 p_codec_Good_l1_e0 s_codec_Good_l1_e0 b)
  | .inr (.inr b) => (.exit 1, stP q_codec_Good_l1_e1 110 3 p_codec_Good_l1_e1 s_codec_Good_l1_e1 b)
theorem lok_codec_Good_l1 : PieceOk (Y_codec_Good).env 0 (sub C_codec_Good [0, 1, 0, 1, 1]) L_codec_Good_l1 :=
  loop_ok (Y := Y_codec_Good) (A := A_codec_Good_l1) hY_codec_Good Facts.mix (root := C_codec_Good) (L := 0) trivial (π := [0, 1, 0, 1, 1]) (c := loopB (sub C_codec_Good [0, 1, 0, 1, 1])) (by kernel_rfl) q_codec_Good_l1 110 3 p_codec_Good_l1 s_codec_Good_l1 E_codec_Good_l1 (fun s => T_codec_Good_l1 s.1 s.2.1 s.2.2.1 s.2.2.2) O_codec_Good_l1 (by intro e d h b; unfold E_codec_Good_l1 at h; split at h <;> first | (cases h; rfl) | cases h) (fun _ => rfl) (by intro r; cases r <;> exact (fun h => by cases h)) (fun o => LR.two o (fun r => (.ret, stP q_codec_Good_l1_e0 110 3 p_codec_Good_l1_e0 s_codec_Good_l1_e0 r)) (fun r => (.exit 1, stP q_codec_Good_l1_e1 110 3 p_codec_Good_l1_e1 s_codec_Good_l1_e1 r))) (by intro o Q h; exact Or.elim h (fun ⟨v, h1, h2⟩ => ⟨_, h1, h2⟩) (fun ⟨v, h1, h2⟩ => ⟨_, h1, h2⟩))
    (by rintro ⟨x0, x1, x2, x3⟩; kernel_rfl)
noncomputable def A_codec_Good : Ann := ⟨[([0, 1, 0, 1, 1], L_codec_Good_l1)], [], [], live_codec_Good, []⟩
noncomputable def T_codec_Good (a0 : Packet) : Tr (Int) :=
  (.ite ((decide (a0.Kind < 1)) || (decide (a0.Kind > 4)))
    (.leaf 3)
    (.ite ((decide (a0.Id < 1)) || (decide (a0.Id > 1099511627776)))
      (.leaf 2)
      (.ite ((decide (a0.Kind ≥ 3)) && ((((decide (a0.V < 0)) || (decide (a0.V ≥ 6))) || (decide (a0.N < 1))) || (decide (a0.N > 1125899906842624))))
        (.leaf 2)
        (.ite (((decide (a0.Kind ≤ 2)) && ((a0.V != 0) || (a0.N != 0))) || ((a0.Kind != 1) && (decide ((IntKind.i64.wrap (((a0.Set.length : Nat) : Int) + ((a0.Done.length : Nat) : Int))) > 0))))
          (.leaf 1)
          (.bind (sh_codec_powers a0.Set 0) fun v1 =>
          (.ite (!v1)
            (.leaf 2)
            (.two (sh_codec_Good_l1 a0.Done ((a0.Done.length : Nat) : Int) 0 a0) (fun v2 =>
              (.leaf v2)) (fun v3 =>
              (.leaf 0)))))))))
noncomputable def sh_codec_Good (a0 : Packet) : Option (Int) := (T_codec_Good a0).run
noncomputable def qa_codec_Good : LQ (Packet) := (Par.q (Par.ofLP packetL))
noncomputable def qr_codec_Good : LQ (Int) := (Par.q intP)
noncomputable def F_codec_Good : SpecT := specF 0 qa_codec_Good 1 [] (fun s => T_codec_Good s) default qr_codec_Good 1 []
theorem ok_codec_Good : SpecOk Try.prog 53 (F_codec_Good).spec :=
  specF_ok (Y := Y_codec_Good) (A := A_codec_Good) hY_codec_Good Facts.mix Try.func53 (c := C_codec_Good) (by kernel_rfl) (Lc := 0) ⟨lok_codec_Good_l1, trivial⟩ qa_codec_Good 1 3 [] (fun s => T_codec_Good s) default qr_codec_Good 1 [] [] (by decide) (by kernel_rfl) (by rfl) (by decide) (by decide) (by rfl)
    (by rintro a0; kernel_rfl)

noncomputable def C_codec_put : Code := Try.f57.body.getD .skip
noncomputable def live_codec_put : List (List Nat) := [[0, 1, 2], [0, 1, 7], [0, 1, 7, 11], [0, 1, 7], [0, 1, 7], [6]]
noncomputable def Y_codec_put : EnvT := ⟨Try.prog, lookT []⟩
theorem hY_codec_put : (Y_codec_put).Ok := lookT_ok trivial
noncomputable def T_codec_put_l1 (x0 : Int) (x1 : Int) (x2 : (List UInt8)) : Tr ((Int × Int × (List UInt8)) ⊕ ((List UInt8))) :=
  (.ite (decide (x1 ≥ 0))
    (.guard ((0 : Int) ≤ (IntKind.u64.wrap (IntKind.i64.wrap (8 * x1))))
    (.guard (0 ≤ (IntKind.u8.wrap (Int.fdiv x0 (2 ^ (min (IntKind.u64.wrap (IntKind.i64.wrap (8 * x1))).toNat 64)))) ∧ (IntKind.u8.wrap (Int.fdiv x0 (2 ^ (min (IntKind.u64.wrap (IntKind.i64.wrap (8 * x1))).toNat 64)))) < 256)
    (.guard ((Sl.len (.bytes x2) + Sl.len (.bytes [UInt8.ofNat (IntKind.u8.wrap (Int.fdiv x0 (2 ^ (min (IntKind.u64.wrap (IntKind.i64.wrap (8 * x1))).toNat 64)))).toNat])) * 1 ≤ 140737488355328)
    (.leaf (.inl (x0, IntKind.i64.wrap (x1 - 1), x2 ++ [UInt8.ofNat (IntKind.u8.wrap (Int.fdiv x0 (2 ^ (min (IntKind.u64.wrap (IntKind.i64.wrap (8 * x1))).toNat 64)))).toNat]))))))
    (.leaf (.inr x2)))
noncomputable def sh_codec_put_l1 (x0 : Int) (x1 : Int) (x2 : (List UInt8)) : Option ((List UInt8)) := iter (fun s : Int × Int × (List UInt8) => (T_codec_put_l1 s.1 s.2.1 s.2.2).run) (x0, x1, x2)
noncomputable def A_codec_put_l1 : Ann := ⟨[], [], [], live_codec_put, []⟩
noncomputable def q_codec_put_l1 : LQ (Int × Int × (List UInt8)) := (LQ.skip (LQ.const (.own 0)) (LQ.seq (Par.q intP) (LQ.seq (Par.q intP) (Par.q bytesP))))
noncomputable def p_codec_put_l1 : Pat := ⟨[0, 1, 7], [.nilown 0 5 (.bytes [])]⟩
noncomputable def s_codec_put_l1 : List BS := [.rows 5]
noncomputable def q_codec_put_l1_e0 : LQ ((List UInt8)) := (LQ.skip (LQ.const (.own 0)) (Par.q bytesP))
noncomputable def p_codec_put_l1_e0 : Pat := ⟨[0], [.nilown 0 5 (.bytes [])]⟩
noncomputable def s_codec_put_l1_e0 : List BS := [.rows 5]
noncomputable def L_codec_put_l1 : St → Option LR := pieceL q_codec_put_l1 24 0 p_codec_put_l1 s_codec_put_l1 (fun o => LR.one o (fun r => (.exit 0, stP q_codec_put_l1_e0 24 5 p_codec_put_l1_e0 s_codec_put_l1_e0 r))) (fun a => iter (fun s : Int × Int × (List UInt8) => (T_codec_put_l1 s.1 s.2.1 s.2.2).run) a)
noncomputable def E_codec_put_l1 : Exit → Option (End ((Int × Int × (List UInt8)) ⊕ ((List UInt8))))
  | .normal => some ⟨_, q_codec_put_l1, p_codec_put_l1, s_codec_put_l1, fun b => .inl b⟩
  | .exit 0 => some ⟨_, q_codec_put_l1_e0, p_codec_put_l1_e0, s_codec_put_l1_e0, fun b => .inr b⟩
  | _ => none
noncomputable def O_codec_put_l1 : ((Int × Int × (List UInt8)) ⊕ ((List UInt8))) → Exit × St
  | .inl b => (.normal, stP q_codec_put_l1 24 5 p_codec_put_l1 s_codec_put_l1 b)
  | .inr b => (.exit 0, stP q_codec_put_l1_e0 24 5 p_codec_put_l1_e0 s_codec_put_l1_e0 b)
theorem lok_codec_put_l1 : PieceOk (Y_codec_put).env 0 (sub C_codec_put [0, 1, 0, 1]) L_codec_put_l1 :=
  loop_ok (Y := Y_codec_put) (A := A_codec_put_l1) hY_codec_put Facts.mix (root := C_codec_put) (L := 0) trivial (π := [0, 1, 0, 1]) (c := loopB (sub C_codec_put [0, 1, 0, 1])) (by kernel_rfl) q_codec_put_l1 24 5 p_codec_put_l1 s_codec_put_l1 E_codec_put_l1 (fun s => T_codec_put_l1 s.1 s.2.1 s.2.2) O_codec_put_l1 (by intro e d h b; unfold E_codec_put_l1 at h; split at h <;> first | (cases h; rfl) | cases h) (fun _ => rfl) (by intro r; exact (fun h => by cases h)) (fun o => LR.one o (fun r => (.exit 0, stP q_codec_put_l1_e0 24 5 p_codec_put_l1_e0 s_codec_put_l1_e0 r))) (by intro o Q h; obtain ⟨v, h1, h2⟩ := h; exact ⟨v, h1, h2⟩)
    (by rintro ⟨x0, x1, x2⟩; kernel_rfl)
noncomputable def A_codec_put : Ann := ⟨[([0, 1, 0, 1], L_codec_put_l1)], [], [], live_codec_put, []⟩
noncomputable def T_codec_put (a0 : Int) (a1 : Int) (a2 : (List UInt8)) : Tr ((List UInt8)) :=
  (.bind (sh_codec_put_l1 a0 (IntKind.i64.wrap (a1 - 1)) a2) fun v1 =>
  (.leaf v1))
noncomputable def sh_codec_put (a0 : Int) (a1 : Int) (a2 : (List UInt8)) : Option ((List UInt8)) := (T_codec_put a0 a1 a2).run
noncomputable def qa_codec_put : LQ (Int × Int × (List UInt8)) := (LQ.skip (LQ.const (.own 0)) (LQ.seq (Par.q intP) (LQ.seq (Par.q intP) (Par.q bytesP))))
noncomputable def qr_codec_put : LQ ((List UInt8)) := (LQ.skip (LQ.const (.own 0)) (Par.q bytesP))
noncomputable def F_codec_put : SpecT := specF 0 qa_codec_put 3 [.rows 5] (fun s => T_codec_put s.1 s.2.1 s.2.2) default qr_codec_put 1 [.rows 5]
theorem ok_codec_put : SpecOk Try.prog 57 (F_codec_put).spec :=
  specF_ok (Y := Y_codec_put) (A := A_codec_put) hY_codec_put Facts.mix Try.func57 (c := C_codec_put) (by kernel_rfl) (Lc := 0) ⟨lok_codec_put_l1, trivial⟩ qa_codec_put 3 5 [.rows 5] (fun s => T_codec_put s.1 s.2.1 s.2.2) default qr_codec_put 1 [.rows 5] [.nilown 6 5 (.bytes [])] (by decide) (by kernel_rfl) (by rfl) (by decide) (by decide) (by rfl)
    (by rintro ⟨a0, a1, a2⟩; kernel_rfl)

noncomputable def C_codec_Encode : Code := Try.f30.body.getD .skip
noncomputable def live_codec_Encode : List (List Nat) := [[1], [1, 4], [1, 4, 13], [2, 3], [1, 5], [1, 5], [1, 5, 34, 35, 36], [1, 5, 34, 35, 36, 37], [1, 5, 7, 34, 35, 36], [1, 5, 34, 35, 36], [1, 5, 34, 35, 36], [1, 5], [5, 54, 55, 56], [5, 54, 55, 56, 57], [5, 9, 54, 55, 56], [5, 54, 55, 56], [5, 54, 55, 56], [2, 3]]
noncomputable def Y_codec_Encode : EnvT := ⟨Try.prog, lookT [(53, F_codec_Good), (57, F_codec_put)]⟩
theorem hY_codec_Encode : (Y_codec_Encode).Ok := lookT_ok ⟨ok_codec_Good, ok_codec_put, trivial⟩
noncomputable def T_codec_Encode_l1 (x0 : (List Power)) (x1 : Int) (x2 : Int) (x3 : Packet) (x4 : (List UInt8)) : Tr (((List Power) × Int × Int × Packet × (List UInt8)) ⊕ (Packet × (List UInt8))) :=
  (.ite (decide (x2 < x1))
    (.guard ((0 : Int) ≤ x2 ∧ x2 < ((Sl.len (.powers x0) : Nat) : Int))
    (.guard ((sh_codec_put ((x0.getD x2.toNat default).V) 1 x4).isSome = true)
    (.guard ((sh_codec_put ((x0.getD x2.toNat default).N) 7 ((sh_codec_put ((x0.getD x2.toNat default).V) 1 x4).getD default)).isSome = true)
    (.leaf (.inl (x0, x1, IntKind.i64.wrap (x2 + 1), x3, ((sh_codec_put ((x0.getD x2.toNat default).N) 7 ((sh_codec_put ((x0.getD x2.toNat default).V) 1 x4).getD default)).getD default)))))))
    (.leaf (.inr (x3, x4))))
noncomputable def sh_codec_Encode_l1 (x0 : (List Power)) (x1 : Int) (x2 : Int) (x3 : Packet) (x4 : (List UInt8)) : Option (Packet × (List UInt8)) := iter (fun s : (List Power) × Int × Int × Packet × (List UInt8) => (T_codec_Encode_l1 s.1 s.2.1 s.2.2.1 s.2.2.2.1 s.2.2.2.2).run) (x0, x1, x2, x3, x4)
noncomputable def A_codec_Encode_l1 : Ann := ⟨[], [], [], live_codec_Encode, []⟩
noncomputable def q_codec_Encode_l1 : LQ ((List Power) × Int × Int × Packet × (List UInt8)) := (LQ.skip (LQ.const (.ptr 0 0)) (LQ.skip (LQ.const (.own 1)) (LQ.seq (Par.q powersP) (LQ.seq (Par.q intP) (LQ.seq (Par.q intP) (LQ.seq (LP.q packetL) (Par.q bytesP)))))))
noncomputable def p_codec_Encode_l1 : Pat := ⟨[1, 5, 34, 35, 36], [.nilown 5 5 (.bytes []), .pub 34, .nilsl 34 (.powers [])]⟩
noncomputable def s_codec_Encode_l1 : List BS := [.cells 56 6, .rows 5]
noncomputable def q_codec_Encode_l1_e0 : LQ (Packet × (List UInt8)) := (LQ.skip (LQ.const (.ptr 0 0)) (LQ.skip (LQ.const (.own 1)) (LQ.seq (LP.q packetL) (Par.q bytesP))))
noncomputable def p_codec_Encode_l1_e0 : Pat := ⟨[1, 5], [.nilown 5 5 (.bytes [])]⟩
noncomputable def s_codec_Encode_l1_e0 : List BS := [.cells 56 6, .rows 5]
noncomputable def L_codec_Encode_l1 : St → Option LR := pieceL q_codec_Encode_l1 66 0 p_codec_Encode_l1 s_codec_Encode_l1 (fun o => LR.one o (fun r => (.exit 0, stP q_codec_Encode_l1_e0 66 8 p_codec_Encode_l1_e0 s_codec_Encode_l1_e0 r))) (fun a => iter (fun s : (List Power) × Int × Int × Packet × (List UInt8) => (T_codec_Encode_l1 s.1 s.2.1 s.2.2.1 s.2.2.2.1 s.2.2.2.2).run) a)
noncomputable def E_codec_Encode_l1 : Exit → Option (End (((List Power) × Int × Int × Packet × (List UInt8)) ⊕ (Packet × (List UInt8))))
  | .normal => some ⟨_, q_codec_Encode_l1, p_codec_Encode_l1, s_codec_Encode_l1, fun b => .inl b⟩
  | .exit 0 => some ⟨_, q_codec_Encode_l1_e0, p_codec_Encode_l1_e0, s_codec_Encode_l1_e0, fun b => .inr b⟩
  | _ => none
noncomputable def O_codec_Encode_l1 : (((List Power) × Int × Int × Packet × (List UInt8)) ⊕ (Packet × (List UInt8))) → Exit × St
  | .inl b => (.normal, stP q_codec_Encode_l1 66 8 p_codec_Encode_l1 s_codec_Encode_l1 b)
  | .inr b => (.exit 0, stP q_codec_Encode_l1_e0 66 8 p_codec_Encode_l1_e0 s_codec_Encode_l1_e0 b)
theorem lok_codec_Encode_l1 : PieceOk (Y_codec_Encode).env 0 (sub C_codec_Encode [0, 1, 0, 1, 1, 1, 1]) L_codec_Encode_l1 :=
  loop_ok (Y := Y_codec_Encode) (A := A_codec_Encode_l1) hY_codec_Encode Facts.mix (root := C_codec_Encode) (L := 0) trivial (π := [0, 1, 0, 1, 1, 1, 1]) (c := loopB (sub C_codec_Encode [0, 1, 0, 1, 1, 1, 1])) (by kernel_rfl) q_codec_Encode_l1 66 8 p_codec_Encode_l1 s_codec_Encode_l1 E_codec_Encode_l1 (fun s => T_codec_Encode_l1 s.1 s.2.1 s.2.2.1 s.2.2.2.1 s.2.2.2.2) O_codec_Encode_l1 (by intro e d h b; unfold E_codec_Encode_l1 at h; split at h <;> first | (cases h; rfl) | cases h) (fun _ => rfl) (by intro r; exact (fun h => by cases h)) (fun o => LR.one o (fun r => (.exit 0, stP q_codec_Encode_l1_e0 66 8 p_codec_Encode_l1_e0 s_codec_Encode_l1_e0 r))) (by intro o Q h; obtain ⟨v, h1, h2⟩ := h; exact ⟨v, h1, h2⟩)
    (by rintro ⟨x0, x1, x2, x3, x4⟩; kernel_rfl)
noncomputable def T_codec_Encode_l2 (x0 : (List Int)) (x1 : Int) (x2 : Int) (x3 : (List UInt8)) : Tr (((List Int) × Int × Int × (List UInt8)) ⊕ ((List UInt8))) :=
  (.ite (decide (x2 < x1))
    (.guard ((0 : Int) ≤ x2 ∧ x2 < ((Sl.len (.ints x0) : Nat) : Int))
    (.bind (sh_codec_put (x0.getD x2.toNat 0) 1 x3) fun v4 =>
    (.leaf (.inl (x0, x1, IntKind.i64.wrap (x2 + 1), v4)))))
    (.leaf (.inr x3)))
noncomputable def sh_codec_Encode_l2 (x0 : (List Int)) (x1 : Int) (x2 : Int) (x3 : (List UInt8)) : Option ((List UInt8)) := iter (fun s : (List Int) × Int × Int × (List UInt8) => (T_codec_Encode_l2 s.1 s.2.1 s.2.2.1 s.2.2.2).run) (x0, x1, x2, x3)
noncomputable def A_codec_Encode_l2 : Ann := ⟨[], [], [], live_codec_Encode, []⟩
noncomputable def q_codec_Encode_l2 : LQ ((List Int) × Int × Int × (List UInt8)) := (LQ.skip (LQ.const (.own 0)) (LQ.seq (Par.q intsP) (LQ.seq (Par.q intP) (LQ.seq (Par.q intP) (Par.q bytesP)))))
noncomputable def p_codec_Encode_l2 : Pat := ⟨[5, 54, 55, 56], [.nilown 5 5 (.bytes []), .pub 54, .nilsl 54 (.ints [])]⟩
noncomputable def s_codec_Encode_l2 : List BS := [.rows 5]
noncomputable def q_codec_Encode_l2_e0 : LQ ((List UInt8)) := (LQ.skip (LQ.const (.own 0)) (Par.q bytesP))
noncomputable def p_codec_Encode_l2_e0 : Pat := ⟨[5], [.nilown 5 5 (.bytes [])]⟩
noncomputable def s_codec_Encode_l2_e0 : List BS := [.rows 5]
noncomputable def L_codec_Encode_l2 : St → Option LR := pieceL q_codec_Encode_l2 66 0 p_codec_Encode_l2 s_codec_Encode_l2 (fun o => LR.one o (fun r => (.exit 2, stP q_codec_Encode_l2_e0 66 8 p_codec_Encode_l2_e0 s_codec_Encode_l2_e0 r))) (fun a => iter (fun s : (List Int) × Int × Int × (List UInt8) => (T_codec_Encode_l2 s.1 s.2.1 s.2.2.1 s.2.2.2).run) a)
noncomputable def E_codec_Encode_l2 : Exit → Option (End (((List Int) × Int × Int × (List UInt8)) ⊕ ((List UInt8))))
  | .normal => some ⟨_, q_codec_Encode_l2, p_codec_Encode_l2, s_codec_Encode_l2, fun b => .inl b⟩
  | .exit 2 => some ⟨_, q_codec_Encode_l2_e0, p_codec_Encode_l2_e0, s_codec_Encode_l2_e0, fun b => .inr b⟩
  | _ => none
noncomputable def O_codec_Encode_l2 : (((List Int) × Int × Int × (List UInt8)) ⊕ ((List UInt8))) → Exit × St
  | .inl b => (.normal, stP q_codec_Encode_l2 66 8 p_codec_Encode_l2 s_codec_Encode_l2 b)
  | .inr b => (.exit 2, stP q_codec_Encode_l2_e0 66 8 p_codec_Encode_l2_e0 s_codec_Encode_l2_e0 b)
theorem lok_codec_Encode_l2 : PieceOk (Y_codec_Encode).env 0 (sub C_codec_Encode [0, 1, 0, 1, 1, 1, 1, 1, 1]) L_codec_Encode_l2 :=
  loop_ok (Y := Y_codec_Encode) (A := A_codec_Encode_l2) hY_codec_Encode Facts.mix (root := C_codec_Encode) (L := 0) trivial (π := [0, 1, 0, 1, 1, 1, 1, 1, 1]) (c := loopB (sub C_codec_Encode [0, 1, 0, 1, 1, 1, 1, 1, 1])) (by kernel_rfl) q_codec_Encode_l2 66 8 p_codec_Encode_l2 s_codec_Encode_l2 E_codec_Encode_l2 (fun s => T_codec_Encode_l2 s.1 s.2.1 s.2.2.1 s.2.2.2) O_codec_Encode_l2 (by intro e d h b; unfold E_codec_Encode_l2 at h; split at h <;> first | (cases h; rfl) | cases h) (fun _ => rfl) (by intro r; exact (fun h => by cases h)) (fun o => LR.one o (fun r => (.exit 2, stP q_codec_Encode_l2_e0 66 8 p_codec_Encode_l2_e0 s_codec_Encode_l2_e0 r))) (by intro o Q h; obtain ⟨v, h1, h2⟩ := h; exact ⟨v, h1, h2⟩)
    (by rintro ⟨x0, x1, x2, x3⟩; kernel_rfl)
noncomputable def A_codec_Encode : Ann := ⟨[([0, 1, 0, 1, 1, 1, 1], L_codec_Encode_l1), ([0, 1, 0, 1, 1, 1, 1, 1, 1], L_codec_Encode_l2)], [], [], live_codec_Encode, []⟩
noncomputable def T_codec_Encode (a0 : Packet) : Tr (ByteArray × Int) :=
  (.bind (sh_codec_Good a0) fun v1 =>
  (.ite (v1 != 0)
    (.leaf ((⟨#[]⟩ : ByteArray), v1))
    (.guard (0 ≤ (IntKind.u8.wrap a0.Kind) ∧ (IntKind.u8.wrap a0.Kind) < 256)
    (.guard ((sh_codec_put a0.Id 6 [UInt8.ofNat (IntKind.u8.wrap a0.Kind).toNat]).isSome = true)
    (.guard ((sh_codec_put a0.V 1 ((sh_codec_put a0.Id 6 [UInt8.ofNat (IntKind.u8.wrap a0.Kind).toNat]).getD default)).isSome = true)
    (.guard ((sh_codec_put a0.N 7 ((sh_codec_put a0.V 1 ((sh_codec_put a0.Id 6 [UInt8.ofNat (IntKind.u8.wrap a0.Kind).toNat]).getD default)).getD default)).isSome = true)
    (.guard ((sh_codec_put ((a0.Set.length : Nat) : Int) 1 ((sh_codec_put a0.N 7 ((sh_codec_put a0.V 1 ((sh_codec_put a0.Id 6 [UInt8.ofNat (IntKind.u8.wrap a0.Kind).toNat]).getD default)).getD default)).getD default)).isSome = true)
    (.bind (sh_codec_Encode_l1 a0.Set ((a0.Set.length : Nat) : Int) 0 a0 ((sh_codec_put ((a0.Set.length : Nat) : Int) 1 ((sh_codec_put a0.N 7 ((sh_codec_put a0.V 1 ((sh_codec_put a0.Id 6 [UInt8.ofNat (IntKind.u8.wrap a0.Kind).toNat]).getD default)).getD default)).getD default)).getD default)) fun v2 =>
    (.bind (sh_codec_put ((v2.1.Done.length : Nat) : Int) 1 v2.2) fun v3 =>
    (.bind (sh_codec_Encode_l2 v2.1.Done ((v2.1.Done.length : Nat) : Int) 0 v3) fun v5 =>
    (.leaf ((⟨v5.toArray⟩ : ByteArray), 0))))))))))))
noncomputable def sh_codec_Encode (a0 : Packet) : Option (ByteArray × Int) := (T_codec_Encode a0).run
noncomputable def qa_codec_Encode : LQ (Packet) := (Par.q (Par.ofLP packetL))
noncomputable def qr_codec_Encode : LQ (ByteArray × Int) := (LQ.seq (Par.q strP) (Par.q intP))
noncomputable def F_codec_Encode : SpecT := specF 0 qa_codec_Encode 1 [] (fun s => T_codec_Encode s) default qr_codec_Encode 2 []
theorem ok_codec_Encode : SpecOk Try.prog 30 (F_codec_Encode).spec :=
  specF_ok (Y := Y_codec_Encode) (A := A_codec_Encode) hY_codec_Encode Facts.mix Try.func30 (c := C_codec_Encode) (by kernel_rfl) (Lc := 0) ⟨lok_codec_Encode_l1, lok_codec_Encode_l2, trivial⟩ qa_codec_Encode 1 8 [] (fun s => T_codec_Encode s) default qr_codec_Encode 2 [] [] (by decide) (by kernel_rfl) (by rfl) (by decide) (by decide) (by rfl)
    (by rintro a0; kernel_rfl)

noncomputable def C_codec_taker_number : Code := Try.f58.body.getD .skip
noncomputable def live_codec_taker_number : List (List Nat) := [[0, 1], [0, 1, 14], [], [4], [0, 1, 5], [0, 1, 5, 27, 28, 29], [0, 1, 5, 27, 28, 29, 30], [0, 1, 5, 7, 27, 28, 29], [0, 1, 5, 27, 28, 29], [0, 1, 5, 27, 28, 29], [5], [4]]
noncomputable def Y_codec_taker_number : EnvT := ⟨Try.prog, lookT []⟩
theorem hY_codec_taker_number : (Y_codec_taker_number).Ok := lookT_ok trivial
noncomputable def T_codec_taker_number_l1 (x0 : Int) (x1 : Int) (x2 : (List UInt8)) (x3 : Int) (x4 : Int) (x5 : Taker) : Tr ((Int × Int × (List UInt8) × Int × Int × Taker) ⊕ (Int × Int × Taker)) :=
  (.ite (decide (x4 < x3))
    (.guard ((0 : Int) ≤ x4 ∧ x4 < ((Sl.len (.bytes x2) : Nat) : Int))
    (.guard ((0 : Int) ≤ 8)
    (.leaf (.inl (x0, IntKind.i64.wrap (((BitVec.ofInt 64 (IntKind.i64.wrap (x1 * 2 ^ 8)) ||| BitVec.ofInt 64 (IntKind.i64.wrap (((x2.getD x4.toNat 0).toNat : Nat) : Int))).toNat : Nat) : Int), x2, x3, IntKind.i64.wrap (x4 + 1), x5)))))
    (.leaf (.inr (x0, x1, x5))))
noncomputable def sh_codec_taker_number_l1 (x0 : Int) (x1 : Int) (x2 : (List UInt8)) (x3 : Int) (x4 : Int) (x5 : Taker) : Option (Int × Int × Taker) := iter (fun s : Int × Int × (List UInt8) × Int × Int × Taker => (T_codec_taker_number_l1 s.1 s.2.1 s.2.2.1 s.2.2.2.1 s.2.2.2.2.1 s.2.2.2.2.2).run) (x0, x1, x2, x3, x4, x5)
noncomputable def A_codec_taker_number_l1 : Ann := ⟨[], [], [], live_codec_taker_number, []⟩
noncomputable def q_codec_taker_number_l1 : LQ (Int × Int × (List UInt8) × Int × Int × Taker) := (LQ.skip (LQ.const (.ptr 0 0)) (LQ.seq (Par.q intP) (LQ.seq (Par.q intP) (LQ.seq (Par.q bytesP) (LQ.seq (Par.q intP) (LQ.seq (Par.q intP) (LP.q takerL)))))))
noncomputable def p_codec_taker_number_l1 : Pat := ⟨[0, 1, 5, 27, 28, 29], [.pub 27, .nilsl 27 (.bytes [])]⟩
noncomputable def s_codec_taker_number_l1 : List BS := [.cells 89 2]
noncomputable def q_codec_taker_number_l1_e0 : LQ (Int × Int × Taker) := (LQ.skip (LQ.const (.ptr 0 0)) (LQ.seq (Par.q intP) (LQ.seq (Par.q intP) (LP.q takerL))))
noncomputable def p_codec_taker_number_l1_e0 : Pat := ⟨[0, 1, 5], []⟩
noncomputable def s_codec_taker_number_l1_e0 : List BS := [.cells 89 2]
noncomputable def L_codec_taker_number_l1 : St → Option LR := pieceL q_codec_taker_number_l1 49 1 p_codec_taker_number_l1 s_codec_taker_number_l1 (fun o => LR.one o (fun r => (.exit 0, stP q_codec_taker_number_l1_e0 49 3 p_codec_taker_number_l1_e0 s_codec_taker_number_l1_e0 r))) (fun a => iter (fun s : Int × Int × (List UInt8) × Int × Int × Taker => (T_codec_taker_number_l1 s.1 s.2.1 s.2.2.1 s.2.2.2.1 s.2.2.2.2.1 s.2.2.2.2.2).run) a)
noncomputable def E_codec_taker_number_l1 : Exit → Option (End ((Int × Int × (List UInt8) × Int × Int × Taker) ⊕ (Int × Int × Taker)))
  | .normal => some ⟨_, q_codec_taker_number_l1, p_codec_taker_number_l1, s_codec_taker_number_l1, fun b => .inl b⟩
  | .exit 0 => some ⟨_, q_codec_taker_number_l1_e0, p_codec_taker_number_l1_e0, s_codec_taker_number_l1_e0, fun b => .inr b⟩
  | _ => none
noncomputable def O_codec_taker_number_l1 : ((Int × Int × (List UInt8) × Int × Int × Taker) ⊕ (Int × Int × Taker)) → Exit × St
  | .inl b => (.normal, stP q_codec_taker_number_l1 49 3 p_codec_taker_number_l1 s_codec_taker_number_l1 b)
  | .inr b => (.exit 0, stP q_codec_taker_number_l1_e0 49 3 p_codec_taker_number_l1_e0 s_codec_taker_number_l1_e0 b)
theorem lok_codec_taker_number_l1 : PieceOk (Y_codec_taker_number).env 1 (sub C_codec_taker_number [0, 1, 0, 1, 1, 1]) L_codec_taker_number_l1 :=
  loop_ok (Y := Y_codec_taker_number) (A := A_codec_taker_number_l1) hY_codec_taker_number Facts.mix (root := C_codec_taker_number) (L := 1) trivial (π := [0, 1, 0, 1, 1, 1]) (c := loopB (sub C_codec_taker_number [0, 1, 0, 1, 1, 1])) (by kernel_rfl) q_codec_taker_number_l1 49 3 p_codec_taker_number_l1 s_codec_taker_number_l1 E_codec_taker_number_l1 (fun s => T_codec_taker_number_l1 s.1 s.2.1 s.2.2.1 s.2.2.2.1 s.2.2.2.2.1 s.2.2.2.2.2) O_codec_taker_number_l1 (by intro e d h b; unfold E_codec_taker_number_l1 at h; split at h <;> first | (cases h; rfl) | cases h) (fun _ => rfl) (by intro r; exact (fun h => by cases h)) (fun o => LR.one o (fun r => (.exit 0, stP q_codec_taker_number_l1_e0 49 3 p_codec_taker_number_l1_e0 s_codec_taker_number_l1_e0 r))) (by intro o Q h; obtain ⟨v, h1, h2⟩ := h; exact ⟨v, h1, h2⟩)
    (by rintro ⟨x0, x1, x2, x3, x4, x5⟩; kernel_rfl)
noncomputable def A_codec_taker_number : Ann := ⟨[([0, 1, 0, 1, 1, 1], L_codec_taker_number_l1)], [], [], live_codec_taker_number, []⟩
noncomputable def T_codec_taker_number (a0 : Int) (a1 : Taker) : Tr (Int × Taker) :=
  (.ite (decide (a0 > ((a1.s.size : Nat) : Int)))
    (.leaf (0, (⟨(⟨#[]⟩ : ByteArray), true⟩ : Taker)))
    (.guard ((0 : Int) ≤ 0 ∧ 0 ≤ (a0 : Int) ∧ a0 ≤ ((a1.s.size : Nat) : Int))
    (.guard ((a1.s.extract 0 a0.toNat).size ≤ 9223372036854775807)
    (.bind (sh_codec_taker_number_l1 a0 0 ((a1.s.extract 0 a0.toNat).data.toList) ((((a1.s.extract 0 a0.toNat).data.toList).length : Nat) : Int) 0 a1) fun v1 =>
    (.guard ((0 : Int) ≤ v1.1 ∧ v1.1 ≤ (((v1.2.2.s.size : Nat) : Int) : Int) ∧ ((v1.2.2.s.size : Nat) : Int) ≤ ((v1.2.2.s.size : Nat) : Int))
    (.leaf (v1.2.1, (⟨v1.2.2.s.extract v1.1.toNat v1.2.2.s.size, v1.2.2.bad⟩ : Taker))))))))
noncomputable def sh_codec_taker_number (a0 : Int) (a1 : Taker) : Option (Int × Taker) := (T_codec_taker_number a0 a1).run
noncomputable def qa_codec_taker_number : LQ (Int × Taker) := (LQ.skip (LQ.const (.ptr 0 0)) (LQ.seq (Par.q intP) (LP.q takerL)))
noncomputable def qr_codec_taker_number : LQ (Int × Taker) := (LQ.seq (Par.q intP) (LP.q takerL))
noncomputable def F_codec_taker_number : SpecT := specF 1 qa_codec_taker_number 2 [.cells 89 2] (fun s => T_codec_taker_number s.1 s.2) default qr_codec_taker_number 1 [.cells 89 2]
theorem ok_codec_taker_number : SpecOk Try.prog 58 (F_codec_taker_number).spec :=
  specF_ok (Y := Y_codec_taker_number) (A := A_codec_taker_number) hY_codec_taker_number Facts.mix Try.func58 (c := C_codec_taker_number) (by kernel_rfl) (Lc := 1) ⟨lok_codec_taker_number_l1, trivial⟩ qa_codec_taker_number 2 3 [.cells 89 2] (fun s => T_codec_taker_number s.1 s.2) default qr_codec_taker_number 1 [.cells 89 2] [] (by decide) (by kernel_rfl) (by rfl) (by decide) (by decide) (by rfl)
    (by rintro ⟨a0, a1⟩; kernel_rfl)

noncomputable def C_codec_Decode : Code := Try.f31.body.getD .skip
noncomputable def live_codec_Decode : List (List Nat) := [[0, 2], [2, 4], [2, 4, 5], [2, 4, 5, 6], [2, 4, 5, 6, 32], [2, 4, 5, 6], [2, 4, 5, 6, 7], [2, 4, 5, 6], [2, 4, 5, 8], [2, 4, 5, 8, 56], [2, 4, 5, 8], [2, 4, 5, 8], [2, 5, 76], [2, 3], [2, 5, 9], [2, 5, 9, 81], [2, 3], [2, 3]]
noncomputable def Y_codec_Decode : EnvT := ⟨Try.prog, lookT [(58, F_codec_taker_number), (53, F_codec_Good)]⟩
theorem hY_codec_Decode : (Y_codec_Decode).Ok := lookT_ok ⟨ok_codec_taker_number, ok_codec_Good, trivial⟩
noncomputable def T_codec_Decode_l1 (x0 : Int) (x1 : Packet) (x2 : Taker) (x3 : Packet) : Tr ((Int × Packet × Taker × Packet) ⊕ (Packet × Taker × Packet)) :=
  (.ite ((decide (x0 > 0)) && (!x2.bad))
    (.bind (sh_codec_taker_number 1 x2) fun v6 =>
    (.guard ((sh_codec_taker_number 7 v6.2).isSome = true)
    (.guard ((Sl.len (.powers x3.Set) + Sl.len (.powers [(⟨v6.1, ((sh_codec_taker_number 7 v6.2).getD default).1⟩ : Power)])) * 16 ≤ 140737488355328)
    (.leaf (.inl (IntKind.i64.wrap (x0 - 1), x1, (((sh_codec_taker_number 7 v6.2).getD default).2), { (x3 : Packet) with Set := x3.Set ++ [(⟨v6.1, ((sh_codec_taker_number 7 v6.2).getD default).1⟩ : Power)] }))))))
    (.leaf (.inr (x1, x2, x3))))
noncomputable def sh_codec_Decode_l1 (x0 : Int) (x1 : Packet) (x2 : Taker) (x3 : Packet) : Option (Packet × Taker × Packet) := iter (fun s : Int × Packet × Taker × Packet => (T_codec_Decode_l1 s.1 s.2.1 s.2.2.1 s.2.2.2).run) (x0, x1, x2, x3)
noncomputable def A_codec_Decode_l1 : Ann := ⟨[], [], [], live_codec_Decode, []⟩
noncomputable def q_codec_Decode_l1 : LQ (Int × Packet × Taker × Packet) := (LQ.map (LQ.skip (LQ.const (.ptr 0 0)) (LQ.skip (LQ.const (.ptr 1 0)) (LQ.skip (LQ.const (.ptr 2 0)) (LQ.seq (Par.q intP) (LQ.seq (Par.q intP) (LQ.seq (Par.q intP) (LQ.seq (Par.q intP) (LQ.seq (Par.q intP) (LQ.skip (LQ.const (.own 3)) (LQ.skip (LQ.const (.own 4)) (LQ.seq (LP.q takerL) (LQ.seq (Par.q intP) (LQ.seq (Par.q intP) (LQ.seq (Par.q intP) (LQ.seq (Par.q intP) (LQ.skip (LQ.const (.own 5)) (LQ.skip (LQ.const (.own 6)) (LQ.seq (Par.q powersP) (LQ.seq (Par.q intsP) (LQ.seq (Par.q powersP) (Par.q intsP))))))))))))))))))))) (fun x : Int × Int × Int × Int × Int × Taker × Int × Int × Int × Int × (List Power) × (List Int) × (List Power) × (List Int) => ((x.1, (⟨x.2.1, x.2.2.1, x.2.2.2.1, x.2.2.2.2.1, x.2.2.2.2.2.2.2.2.2.2.1, x.2.2.2.2.2.2.2.2.2.2.2.1⟩ : Packet), x.2.2.2.2.2.1, (⟨x.2.2.2.2.2.2.1, x.2.2.2.2.2.2.2.1, x.2.2.2.2.2.2.2.2.1, x.2.2.2.2.2.2.2.2.2.1, x.2.2.2.2.2.2.2.2.2.2.2.2.1, x.2.2.2.2.2.2.2.2.2.2.2.2.2⟩ : Packet)) : Int × Packet × Taker × Packet)) (fun y => (y.1, y.2.1.Kind, y.2.1.Id, y.2.1.V, y.2.1.N, y.2.2.1, y.2.2.2.Kind, y.2.2.2.Id, y.2.2.2.V, y.2.2.2.N, y.2.1.Set, y.2.1.Done, y.2.2.2.Set, y.2.2.2.Done)) (fun _ => rfl))
noncomputable def p_codec_Decode_l1 : Pat := ⟨[2, 4, 5, 6], [.nilcell 2 4 52 (.powers []), .nilcell 2 5 3 (.ints []), .nilcell 5 4 52 (.powers []), .nilcell 5 5 3 (.ints [])]⟩
noncomputable def s_codec_Decode_l1 : List BS := [.cells 56 6, .cells 89 2, .cells 56 6, .rows 52, .rows 3, .rows 52, .rows 3]
noncomputable def q_codec_Decode_l1_e0 : LQ (Packet × Taker × Packet) := (LQ.map (LQ.skip (LQ.const (.ptr 0 0)) (LQ.skip (LQ.const (.ptr 1 0)) (LQ.skip (LQ.const (.ptr 2 0)) (LQ.seq (Par.q intP) (LQ.seq (Par.q intP) (LQ.seq (Par.q intP) (LQ.seq (Par.q intP) (LQ.skip (LQ.const (.own 3)) (LQ.skip (LQ.const (.own 4)) (LQ.seq (LP.q takerL) (LQ.seq (Par.q intP) (LQ.seq (Par.q intP) (LQ.seq (Par.q intP) (LQ.seq (Par.q intP) (LQ.skip (LQ.const (.own 5)) (LQ.skip (LQ.const (.own 6)) (LQ.seq (Par.q powersP) (LQ.seq (Par.q intsP) (LQ.seq (Par.q powersP) (Par.q intsP)))))))))))))))))))) (fun x : Int × Int × Int × Int × Taker × Int × Int × Int × Int × (List Power) × (List Int) × (List Power) × (List Int) => (((⟨x.1, x.2.1, x.2.2.1, x.2.2.2.1, x.2.2.2.2.2.2.2.2.2.1, x.2.2.2.2.2.2.2.2.2.2.1⟩ : Packet), x.2.2.2.2.1, (⟨x.2.2.2.2.2.1, x.2.2.2.2.2.2.1, x.2.2.2.2.2.2.2.1, x.2.2.2.2.2.2.2.2.1, x.2.2.2.2.2.2.2.2.2.2.2.1, x.2.2.2.2.2.2.2.2.2.2.2.2⟩ : Packet)) : Packet × Taker × Packet)) (fun y => (y.1.Kind, y.1.Id, y.1.V, y.1.N, y.2.1, y.2.2.Kind, y.2.2.Id, y.2.2.V, y.2.2.N, y.1.Set, y.1.Done, y.2.2.Set, y.2.2.Done)) (fun _ => rfl))
noncomputable def p_codec_Decode_l1_e0 : Pat := ⟨[2, 4, 5], [.nilcell 2 4 52 (.powers []), .nilcell 2 5 3 (.ints []), .nilcell 5 4 52 (.powers []), .nilcell 5 5 3 (.ints [])]⟩
noncomputable def s_codec_Decode_l1_e0 : List BS := [.cells 56 6, .cells 89 2, .cells 56 6, .rows 52, .rows 3, .rows 52, .rows 3]
noncomputable def L_codec_Decode_l1 : St → Option LR := pieceL q_codec_Decode_l1 85 0 p_codec_Decode_l1 s_codec_Decode_l1 (fun o => LR.one o (fun r => (.exit 0, stP q_codec_Decode_l1_e0 85 11 p_codec_Decode_l1_e0 s_codec_Decode_l1_e0 r))) (fun a => iter (fun s : Int × Packet × Taker × Packet => (T_codec_Decode_l1 s.1 s.2.1 s.2.2.1 s.2.2.2).run) a)
noncomputable def E_codec_Decode_l1 : Exit → Option (End ((Int × Packet × Taker × Packet) ⊕ (Packet × Taker × Packet)))
  | .normal => some ⟨_, q_codec_Decode_l1, p_codec_Decode_l1, s_codec_Decode_l1, fun b => .inl b⟩
  | .exit 0 => some ⟨_, q_codec_Decode_l1_e0, p_codec_Decode_l1_e0, s_codec_Decode_l1_e0, fun b => .inr b⟩
  | _ => none
noncomputable def O_codec_Decode_l1 : ((Int × Packet × Taker × Packet) ⊕ (Packet × Taker × Packet)) → Exit × St
  | .inl b => (.normal, stP q_codec_Decode_l1 85 11 p_codec_Decode_l1 s_codec_Decode_l1 b)
  | .inr b => (.exit 0, stP q_codec_Decode_l1_e0 85 11 p_codec_Decode_l1_e0 s_codec_Decode_l1_e0 b)
theorem lok_codec_Decode_l1 : PieceOk (Y_codec_Decode).env 0 (sub C_codec_Decode [0, 1, 0, 1, 1, 1]) L_codec_Decode_l1 :=
  loop_ok (Y := Y_codec_Decode) (A := A_codec_Decode_l1) hY_codec_Decode Facts.mix (root := C_codec_Decode) (L := 0) trivial (π := [0, 1, 0, 1, 1, 1]) (c := loopB (sub C_codec_Decode [0, 1, 0, 1, 1, 1])) (by kernel_rfl) q_codec_Decode_l1 85 11 p_codec_Decode_l1 s_codec_Decode_l1 E_codec_Decode_l1 (fun s => T_codec_Decode_l1 s.1 s.2.1 s.2.2.1 s.2.2.2) O_codec_Decode_l1 (by intro e d h b; unfold E_codec_Decode_l1 at h; split at h <;> first | (cases h; rfl) | cases h) (fun _ => rfl) (by intro r; exact (fun h => by cases h)) (fun o => LR.one o (fun r => (.exit 0, stP q_codec_Decode_l1_e0 85 11 p_codec_Decode_l1_e0 s_codec_Decode_l1_e0 r))) (by intro o Q h; obtain ⟨v, h1, h2⟩ := h; exact ⟨v, h1, h2⟩)
    (by rintro ⟨x0, x1, x2, x3⟩; kernel_rfl)
noncomputable def T_codec_Decode_l2 (x0 : Int) (x1 : Packet) (x2 : Taker) (x3 : Packet) : Tr ((Int × Packet × Taker × Packet) ⊕ (Packet × Taker × Packet)) :=
  (.ite ((decide (x0 > 0)) && (!x2.bad))
    (.guard ((sh_codec_taker_number 1 x2).isSome = true)
    (.guard ((Sl.len (.ints x3.Done) + Sl.len (.ints [((sh_codec_taker_number 1 x2).getD default).1])) * 8 ≤ 140737488355328)
    (.leaf (.inl (IntKind.i64.wrap (x0 - 1), x1, (((sh_codec_taker_number 1 x2).getD default).2), { (x3 : Packet) with Done := x3.Done ++ [((sh_codec_taker_number 1 x2).getD default).1] })))))
    (.leaf (.inr (x1, x2, x3))))
noncomputable def sh_codec_Decode_l2 (x0 : Int) (x1 : Packet) (x2 : Taker) (x3 : Packet) : Option (Packet × Taker × Packet) := iter (fun s : Int × Packet × Taker × Packet => (T_codec_Decode_l2 s.1 s.2.1 s.2.2.1 s.2.2.2).run) (x0, x1, x2, x3)
noncomputable def A_codec_Decode_l2 : Ann := ⟨[], [], [], live_codec_Decode, []⟩
noncomputable def q_codec_Decode_l2 : LQ (Int × Packet × Taker × Packet) := (LQ.map (LQ.skip (LQ.const (.ptr 0 0)) (LQ.skip (LQ.const (.ptr 1 0)) (LQ.skip (LQ.const (.ptr 2 0)) (LQ.seq (Par.q intP) (LQ.seq (Par.q intP) (LQ.seq (Par.q intP) (LQ.seq (Par.q intP) (LQ.seq (Par.q intP) (LQ.skip (LQ.const (.own 3)) (LQ.skip (LQ.const (.own 4)) (LQ.seq (LP.q takerL) (LQ.seq (Par.q intP) (LQ.seq (Par.q intP) (LQ.seq (Par.q intP) (LQ.seq (Par.q intP) (LQ.skip (LQ.const (.own 5)) (LQ.skip (LQ.const (.own 6)) (LQ.seq (Par.q powersP) (LQ.seq (Par.q intsP) (LQ.seq (Par.q powersP) (Par.q intsP))))))))))))))))))))) (fun x : Int × Int × Int × Int × Int × Taker × Int × Int × Int × Int × (List Power) × (List Int) × (List Power) × (List Int) => ((x.1, (⟨x.2.1, x.2.2.1, x.2.2.2.1, x.2.2.2.2.1, x.2.2.2.2.2.2.2.2.2.2.1, x.2.2.2.2.2.2.2.2.2.2.2.1⟩ : Packet), x.2.2.2.2.2.1, (⟨x.2.2.2.2.2.2.1, x.2.2.2.2.2.2.2.1, x.2.2.2.2.2.2.2.2.1, x.2.2.2.2.2.2.2.2.2.1, x.2.2.2.2.2.2.2.2.2.2.2.2.1, x.2.2.2.2.2.2.2.2.2.2.2.2.2⟩ : Packet)) : Int × Packet × Taker × Packet)) (fun y => (y.1, y.2.1.Kind, y.2.1.Id, y.2.1.V, y.2.1.N, y.2.2.1, y.2.2.2.Kind, y.2.2.2.Id, y.2.2.2.V, y.2.2.2.N, y.2.1.Set, y.2.1.Done, y.2.2.2.Set, y.2.2.2.Done)) (fun _ => rfl))
noncomputable def p_codec_Decode_l2 : Pat := ⟨[2, 4, 5, 8], [.nilcell 2 4 52 (.powers []), .nilcell 2 5 3 (.ints []), .nilcell 5 4 52 (.powers []), .nilcell 5 5 3 (.ints [])]⟩
noncomputable def s_codec_Decode_l2 : List BS := [.cells 56 6, .cells 89 2, .cells 56 6, .rows 52, .rows 3, .rows 52, .rows 3]
noncomputable def q_codec_Decode_l2_e0 : LQ (Packet × Taker × Packet) := (LQ.map (LQ.skip (LQ.const (.ptr 0 0)) (LQ.skip (LQ.const (.ptr 1 0)) (LQ.skip (LQ.const (.ptr 2 0)) (LQ.seq (Par.q intP) (LQ.seq (Par.q intP) (LQ.seq (Par.q intP) (LQ.seq (Par.q intP) (LQ.skip (LQ.const (.own 3)) (LQ.skip (LQ.const (.own 4)) (LQ.seq (LP.q takerL) (LQ.seq (Par.q intP) (LQ.seq (Par.q intP) (LQ.seq (Par.q intP) (LQ.seq (Par.q intP) (LQ.skip (LQ.const (.own 5)) (LQ.skip (LQ.const (.own 6)) (LQ.seq (Par.q powersP) (LQ.seq (Par.q intsP) (LQ.seq (Par.q powersP) (Par.q intsP)))))))))))))))))))) (fun x : Int × Int × Int × Int × Taker × Int × Int × Int × Int × (List Power) × (List Int) × (List Power) × (List Int) => (((⟨x.1, x.2.1, x.2.2.1, x.2.2.2.1, x.2.2.2.2.2.2.2.2.2.1, x.2.2.2.2.2.2.2.2.2.2.1⟩ : Packet), x.2.2.2.2.1, (⟨x.2.2.2.2.2.1, x.2.2.2.2.2.2.1, x.2.2.2.2.2.2.2.1, x.2.2.2.2.2.2.2.2.1, x.2.2.2.2.2.2.2.2.2.2.2.1, x.2.2.2.2.2.2.2.2.2.2.2.2⟩ : Packet)) : Packet × Taker × Packet)) (fun y => (y.1.Kind, y.1.Id, y.1.V, y.1.N, y.2.1, y.2.2.Kind, y.2.2.Id, y.2.2.V, y.2.2.N, y.1.Set, y.1.Done, y.2.2.Set, y.2.2.Done)) (fun _ => rfl))
noncomputable def p_codec_Decode_l2_e0 : Pat := ⟨[2, 4, 5], [.nilcell 2 4 52 (.powers []), .nilcell 2 5 3 (.ints []), .nilcell 5 4 52 (.powers []), .nilcell 5 5 3 (.ints [])]⟩
noncomputable def s_codec_Decode_l2_e0 : List BS := [.cells 56 6, .cells 89 2, .cells 56 6, .rows 52, .rows 3, .rows 52, .rows 3]
noncomputable def L_codec_Decode_l2 : St → Option LR := pieceL q_codec_Decode_l2 85 0 p_codec_Decode_l2 s_codec_Decode_l2 (fun o => LR.one o (fun r => (.exit 2, stP q_codec_Decode_l2_e0 85 11 p_codec_Decode_l2_e0 s_codec_Decode_l2_e0 r))) (fun a => iter (fun s : Int × Packet × Taker × Packet => (T_codec_Decode_l2 s.1 s.2.1 s.2.2.1 s.2.2.2).run) a)
noncomputable def E_codec_Decode_l2 : Exit → Option (End ((Int × Packet × Taker × Packet) ⊕ (Packet × Taker × Packet)))
  | .normal => some ⟨_, q_codec_Decode_l2, p_codec_Decode_l2, s_codec_Decode_l2, fun b => .inl b⟩
  | .exit 2 => some ⟨_, q_codec_Decode_l2_e0, p_codec_Decode_l2_e0, s_codec_Decode_l2_e0, fun b => .inr b⟩
  | _ => none
noncomputable def O_codec_Decode_l2 : ((Int × Packet × Taker × Packet) ⊕ (Packet × Taker × Packet)) → Exit × St
  | .inl b => (.normal, stP q_codec_Decode_l2 85 11 p_codec_Decode_l2 s_codec_Decode_l2 b)
  | .inr b => (.exit 2, stP q_codec_Decode_l2_e0 85 11 p_codec_Decode_l2_e0 s_codec_Decode_l2_e0 b)
theorem lok_codec_Decode_l2 : PieceOk (Y_codec_Decode).env 0 (sub C_codec_Decode [0, 1, 0, 1, 1, 1, 1]) L_codec_Decode_l2 :=
  loop_ok (Y := Y_codec_Decode) (A := A_codec_Decode_l2) hY_codec_Decode Facts.mix (root := C_codec_Decode) (L := 0) trivial (π := [0, 1, 0, 1, 1, 1, 1]) (c := loopB (sub C_codec_Decode [0, 1, 0, 1, 1, 1, 1])) (by kernel_rfl) q_codec_Decode_l2 85 11 p_codec_Decode_l2 s_codec_Decode_l2 E_codec_Decode_l2 (fun s => T_codec_Decode_l2 s.1 s.2.1 s.2.2.1 s.2.2.2) O_codec_Decode_l2 (by intro e d h b; unfold E_codec_Decode_l2 at h; split at h <;> first | (cases h; rfl) | cases h) (fun _ => rfl) (by intro r; exact (fun h => by cases h)) (fun o => LR.one o (fun r => (.exit 2, stP q_codec_Decode_l2_e0 85 11 p_codec_Decode_l2_e0 s_codec_Decode_l2_e0 r))) (by intro o Q h; obtain ⟨v, h1, h2⟩ := h; exact ⟨v, h1, h2⟩)
    (by rintro ⟨x0, x1, x2, x3⟩; kernel_rfl)
noncomputable def A_codec_Decode : Ann := ⟨[([0, 1, 0, 1, 1, 1], L_codec_Decode_l1), ([0, 1, 0, 1, 1, 1, 1], L_codec_Decode_l2)], [], [], live_codec_Decode, []⟩
noncomputable def T_codec_Decode (a0 : ByteArray) : Tr (Packet × Int) :=
  (.bind (sh_codec_taker_number 1 (⟨a0, false⟩ : Taker)) fun v1 =>
  (.bind (sh_codec_taker_number 6 v1.2) fun v2 =>
  (.bind (sh_codec_taker_number 1 v2.2) fun v3 =>
  (.bind (sh_codec_taker_number 7 v3.2) fun v4 =>
  (.bind (sh_codec_taker_number 1 v4.2) fun v5 =>
  (.bind (sh_codec_Decode_l1 v5.1 (⟨0, 0, 0, 0, [], []⟩ : Packet) v5.2 (⟨v1.1, v2.1, v3.1, v4.1, [], []⟩ : Packet)) fun v7 =>
  (.bind (sh_codec_taker_number 1 v7.2.1) fun v8 =>
  (.bind (sh_codec_Decode_l2 v8.1 v7.1 v8.2 v7.2.2) fun v9 =>
  (.ite (v9.2.1.bad || (!(v9.2.1.s.toList == (⟨#[]⟩ : ByteArray).toList)))
    (.leaf ((⟨0, 0, 0, 0, [], []⟩ : Packet), 1))
    (.bind (sh_codec_Good v9.2.2) fun v11 =>
    (.ite (v11 != 0)
      (.leaf ((⟨0, 0, 0, 0, [], []⟩ : Packet), v11))
      (.leaf (v9.2.2, 0)))))))))))))
noncomputable def sh_codec_Decode (a0 : ByteArray) : Option (Packet × Int) := (T_codec_Decode a0).run
noncomputable def qa_codec_Decode : LQ (ByteArray) := (Par.q strP)
noncomputable def qr_codec_Decode : LQ (Packet × Int) := (LQ.seq (Par.q (Par.ofLP packetL)) (Par.q intP))
noncomputable def F_codec_Decode : SpecT := specF 0 qa_codec_Decode 1 [] (fun s => T_codec_Decode s) default qr_codec_Decode 2 []
theorem ok_codec_Decode : SpecOk Try.prog 31 (F_codec_Decode).spec :=
  specF_ok (Y := Y_codec_Decode) (A := A_codec_Decode) hY_codec_Decode Facts.mix Try.func31 (c := C_codec_Decode) (by kernel_rfl) (Lc := 0) ⟨lok_codec_Decode_l1, lok_codec_Decode_l2, trivial⟩ qa_codec_Decode 1 11 [] (fun s => T_codec_Decode s) default qr_codec_Decode 2 [] [.pubB 2] (by decide) (by kernel_rfl) (by rfl) (by decide) (by decide) (by rfl)
    (by rintro a0; kernel_rfl)

noncomputable def C_ref_GoodPacket : Code := Try.f54.body.getD .skip
noncomputable def live_ref_GoodPacket : List (List Nat) := [[1], [1, 16], [2], [1, 3], [1, 3, 55], [2], [1, 84], [2], [1, 4], [1, 4, 86, 87, 88], [1, 4, 86, 87, 88, 89], [1, 4, 6, 86, 87, 88], [1, 6, 86, 87, 88, 110], [2], [1, 4, 86, 87, 88], [1, 4, 86, 87, 88], [1, 4], [4, 115, 116, 117], [4, 115, 116, 117, 118], [4, 8, 115, 116, 117], [8, 115, 116, 117, 127], [2], [4, 115, 116, 117], [4, 115, 116, 117], [2]]
noncomputable def Y_ref_GoodPacket : EnvT := ⟨Try.prog, lookT []⟩
theorem hY_ref_GoodPacket : (Y_ref_GoodPacket).Ok := lookT_ok trivial
noncomputable def T_ref_GoodPacket_l1 (x0 : Int) (x1 : (List Power)) (x2 : Int) (x3 : Int) (x4 : Packet) : Tr ((Int × (List Power) × Int × Int × Packet) ⊕ ((Int) ⊕ (Packet))) :=
  (.ite (decide (x3 < x2))
    (.guard ((0 : Int) ≤ x3 ∧ x3 < ((Sl.len (.powers x1) : Nat) : Int))
    (.ite ((((decide (((x1.getD x3.toNat default).V) ≤ x0)) || (decide (((x1.getD x3.toNat default).V) > 5))) || (decide (((x1.getD x3.toNat default).N) < 0))) || (decide (((x1.getD x3.toNat default).N) > 1125899906842624)))
      (.leaf (.inr (.inl 2)))
      (.leaf (.inl ((x1.getD x3.toNat default).V, x1, x2, IntKind.i64.wrap (x3 + 1), x4)))))
    (.leaf (.inr (.inr x4))))
noncomputable def sh_ref_GoodPacket_l1 (x0 : Int) (x1 : (List Power)) (x2 : Int) (x3 : Int) (x4 : Packet) : Option ((Int) ⊕ (Packet)) := iter (fun s : Int × (List Power) × Int × Int × Packet => (T_ref_GoodPacket_l1 s.1 s.2.1 s.2.2.1 s.2.2.2.1 s.2.2.2.2).run) (x0, x1, x2, x3, x4)
noncomputable def A_ref_GoodPacket_l1 : Ann := ⟨[], [], [], live_ref_GoodPacket, []⟩
noncomputable def q_ref_GoodPacket_l1 : LQ (Int × (List Power) × Int × Int × Packet) := (LQ.skip (LQ.const (.ptr 0 0)) (LQ.seq (Par.q intP) (LQ.seq (Par.q powersP) (LQ.seq (Par.q intP) (LQ.seq (Par.q intP) (LP.q packetL))))))
noncomputable def p_ref_GoodPacket_l1 : Pat := ⟨[1, 4, 86, 87, 88], [.pub 86, .nilsl 86 (.powers [])]⟩
noncomputable def s_ref_GoodPacket_l1 : List BS := [.cells 56 6]
noncomputable def q_ref_GoodPacket_l1_e0 : LQ (Int) := (Par.q intP)
noncomputable def p_ref_GoodPacket_l1_e0 : Pat := ⟨[2], []⟩
noncomputable def s_ref_GoodPacket_l1_e0 : List BS := []
noncomputable def q_ref_GoodPacket_l1_e1 : LQ (Packet) := (LQ.skip (LQ.const (.ptr 0 0)) (LP.q packetL))
noncomputable def p_ref_GoodPacket_l1_e1 : Pat := ⟨[1], []⟩
noncomputable def s_ref_GoodPacket_l1_e1 : List BS := [.cells 56 6]
noncomputable def L_ref_GoodPacket_l1 : St → Option LR := pieceL q_ref_GoodPacket_l1 130 0 p_ref_GoodPacket_l1 s_ref_GoodPacket_l1 (fun o => LR.two o (fun r => (.ret, stP q_ref_GoodPacket_l1_e0 130 4 p_ref_GoodPacket_l1_e0 s_ref_GoodPacket_l1_e0 r)) (fun r => (.exit 0, stP q_ref_GoodPacket_l1_e1 130 4 p_ref_GoodPacket_l1_e1 s_ref_GoodPacket_l1_e1 r))) (fun a => iter (fun s : Int × (List Power) × Int × Int × Packet => (T_ref_GoodPacket_l1 s.1 s.2.1 s.2.2.1 s.2.2.2.1 s.2.2.2.2).run) a)
noncomputable def E_ref_GoodPacket_l1 : Exit → Option (End ((Int × (List Power) × Int × Int × Packet) ⊕ ((Int) ⊕ (Packet))))
  | .normal => some ⟨_, q_ref_GoodPacket_l1, p_ref_GoodPacket_l1, s_ref_GoodPacket_l1, fun b => .inl b⟩
  | .ret => some ⟨_, q_ref_GoodPacket_l1_e0, p_ref_GoodPacket_l1_e0, s_ref_GoodPacket_l1_e0, fun b => .inr (.inl b)⟩
  | .exit 0 => some ⟨_, q_ref_GoodPacket_l1_e1, p_ref_GoodPacket_l1_e1, s_ref_GoodPacket_l1_e1, fun b => .inr (.inr b)⟩
  | _ => none
noncomputable def O_ref_GoodPacket_l1 : ((Int × (List Power) × Int × Int × Packet) ⊕ ((Int) ⊕ (Packet))) → Exit × St
  | .inl b => (.normal, stP q_ref_GoodPacket_l1 130 4 p_ref_GoodPacket_l1 s_ref_GoodPacket_l1 b)
  | .inr (.inl b) => (.ret, stP q_ref_GoodPacket_l1_e0 130 4 p_ref_GoodPacket_l1_e0 s_ref_GoodPacket_l1_e0 b)
  | .inr (.inr b) => (.exit 0, stP q_ref_GoodPacket_l1_e1 130 4 p_ref_GoodPacket_l1_e1 s_ref_GoodPacket_l1_e1 b)
theorem lok_ref_GoodPacket_l1 : PieceOk (Y_ref_GoodPacket).env 0 (sub C_ref_GoodPacket [0, 1, 0, 1, 1, 1, 1, 1, 1]) L_ref_GoodPacket_l1 :=
  loop_ok (Y := Y_ref_GoodPacket) (A := A_ref_GoodPacket_l1) hY_ref_GoodPacket Facts.mix (root := C_ref_GoodPacket) (L := 0) trivial (π := [0, 1, 0, 1, 1, 1, 1, 1, 1]) (c := loopB (sub C_ref_GoodPacket [0, 1, 0, 1, 1, 1, 1, 1, 1])) (by kernel_rfl) q_ref_GoodPacket_l1 130 4 p_ref_GoodPacket_l1 s_ref_GoodPacket_l1 E_ref_GoodPacket_l1 (fun s => T_ref_GoodPacket_l1 s.1 s.2.1 s.2.2.1 s.2.2.2.1 s.2.2.2.2) O_ref_GoodPacket_l1 (by intro e d h b; unfold E_ref_GoodPacket_l1 at h; split at h <;> first | (cases h; rfl) | cases h) (fun _ => rfl) (by intro r; cases r <;> exact (fun h => by cases h)) (fun o => LR.two o (fun r => (.ret, stP q_ref_GoodPacket_l1_e0 130 4 p_ref_GoodPacket_l1_e0 s_ref_GoodPacket_l1_e0 r)) (fun r => (.exit 0, stP q_ref_GoodPacket_l1_e1 130 4 p_ref_GoodPacket_l1_e1 s_ref_GoodPacket_l1_e1 r))) (by intro o Q h; exact Or.elim h (fun ⟨v, h1, h2⟩ => ⟨_, h1, h2⟩) (fun ⟨v, h1, h2⟩ => ⟨_, h1, h2⟩))
    (by rintro ⟨x0, x1, x2, x3, x4⟩; kernel_rfl)
noncomputable def T_ref_GoodPacket_l2 (x0 : Int) (x1 : (List Int)) (x2 : Int) (x3 : Int) : Tr ((Int × (List Int) × Int × Int) ⊕ ((Int) ⊕ (Unit))) :=
  (.ite (decide (x3 < x2))
    (.guard ((0 : Int) ≤ x3 ∧ x3 < ((Sl.len (.ints x1) : Nat) : Int))
    (.ite ((decide ((x1.getD x3.toNat 0) ≤ x0)) || (decide ((x1.getD x3.toNat 0) > 5)))
      (.leaf (.inr (.inl 2)))
      (.leaf (.inl (x1.getD x3.toNat 0, x1, x2, IntKind.i64.wrap (x3 + 1))))))
    (.leaf (.inr (.inr ()))))
noncomputable def sh_ref_GoodPacket_l2 (x0 : Int) (x1 : (List Int)) (x2 : Int) (x3 : Int) : Option ((Int) ⊕ (Unit)) := iter (fun s : Int × (List Int) × Int × Int => (T_ref_GoodPacket_l2 s.1 s.2.1 s.2.2.1 s.2.2.2).run) (x0, x1, x2, x3)
noncomputable def A_ref_GoodPacket_l2 : Ann := ⟨[], [], [], live_ref_GoodPacket, []⟩
noncomputable def q_ref_GoodPacket_l2 : LQ (Int × (List Int) × Int × Int) := (LQ.seq (Par.q intP) (LQ.seq (Par.q intsP) (LQ.seq (Par.q intP) (Par.q intP))))
noncomputable def p_ref_GoodPacket_l2 : Pat := ⟨[4, 115, 116, 117], [.pub 115, .nilsl 115 (.ints [])]⟩
noncomputable def s_ref_GoodPacket_l2 : List BS := []
noncomputable def q_ref_GoodPacket_l2_e0 : LQ (Int) := (Par.q intP)
noncomputable def p_ref_GoodPacket_l2_e0 : Pat := ⟨[2], []⟩
noncomputable def s_ref_GoodPacket_l2_e0 : List BS := []
noncomputable def q_ref_GoodPacket_l2_e1 : LQ (Unit) := LQ.nil
noncomputable def p_ref_GoodPacket_l2_e1 : Pat := ⟨[], []⟩
noncomputable def s_ref_GoodPacket_l2_e1 : List BS := []
noncomputable def L_ref_GoodPacket_l2 : St → Option LR := pieceL q_ref_GoodPacket_l2 130 0 p_ref_GoodPacket_l2 s_ref_GoodPacket_l2 (fun o => LR.two o (fun r => (.ret, stP q_ref_GoodPacket_l2_e0 130 4 p_ref_GoodPacket_l2_e0 s_ref_GoodPacket_l2_e0 r)) (fun r => (.exit 2, stP q_ref_GoodPacket_l2_e1 130 4 p_ref_GoodPacket_l2_e1 s_ref_GoodPacket_l2_e1 r))) (fun a => iter (fun s : Int × (List Int) × Int × Int => (T_ref_GoodPacket_l2 s.1 s.2.1 s.2.2.1 s.2.2.2).run) a)
noncomputable def E_ref_GoodPacket_l2 : Exit → Option (End ((Int × (List Int) × Int × Int) ⊕ ((Int) ⊕ (Unit))))
  | .normal => some ⟨_, q_ref_GoodPacket_l2, p_ref_GoodPacket_l2, s_ref_GoodPacket_l2, fun b => .inl b⟩
  | .ret => some ⟨_, q_ref_GoodPacket_l2_e0, p_ref_GoodPacket_l2_e0, s_ref_GoodPacket_l2_e0, fun b => .inr (.inl b)⟩
  | .exit 2 => some ⟨_, q_ref_GoodPacket_l2_e1, p_ref_GoodPacket_l2_e1, s_ref_GoodPacket_l2_e1, fun b => .inr (.inr b)⟩
  | _ => none
noncomputable def O_ref_GoodPacket_l2 : ((Int × (List Int) × Int × Int) ⊕ ((Int) ⊕ (Unit))) → Exit × St
  | .inl b => (.normal, stP q_ref_GoodPacket_l2 130 4 p_ref_GoodPacket_l2 s_ref_GoodPacket_l2 b)
  | .inr (.inl b) => (.ret, stP q_ref_GoodPacket_l2_e0 130 4 p_ref_GoodPacket_l2_e0 s_ref_GoodPacket_l2_e0 b)
  | .inr (.inr b) => (.exit 2, stP q_ref_GoodPacket_l2_e1 130 4 p_ref_GoodPacket_l2_e1 s_ref_GoodPacket_l2_e1 b)
theorem lok_ref_GoodPacket_l2 : PieceOk (Y_ref_GoodPacket).env 0 (sub C_ref_GoodPacket [0, 1, 0, 1, 1, 1, 1, 1, 1, 1, 1]) L_ref_GoodPacket_l2 :=
  loop_ok (Y := Y_ref_GoodPacket) (A := A_ref_GoodPacket_l2) hY_ref_GoodPacket Facts.mix (root := C_ref_GoodPacket) (L := 0) trivial (π := [0, 1, 0, 1, 1, 1, 1, 1, 1, 1, 1]) (c := loopB (sub C_ref_GoodPacket [0, 1, 0, 1, 1, 1, 1, 1, 1, 1, 1])) (by kernel_rfl) q_ref_GoodPacket_l2 130 4 p_ref_GoodPacket_l2 s_ref_GoodPacket_l2 E_ref_GoodPacket_l2 (fun s => T_ref_GoodPacket_l2 s.1 s.2.1 s.2.2.1 s.2.2.2) O_ref_GoodPacket_l2 (by intro e d h b; unfold E_ref_GoodPacket_l2 at h; split at h <;> first | (cases h; rfl) | cases h) (fun _ => rfl) (by intro r; cases r <;> exact (fun h => by cases h)) (fun o => LR.two o (fun r => (.ret, stP q_ref_GoodPacket_l2_e0 130 4 p_ref_GoodPacket_l2_e0 s_ref_GoodPacket_l2_e0 r)) (fun r => (.exit 2, stP q_ref_GoodPacket_l2_e1 130 4 p_ref_GoodPacket_l2_e1 s_ref_GoodPacket_l2_e1 r))) (by intro o Q h; exact Or.elim h (fun ⟨v, h1, h2⟩ => ⟨_, h1, h2⟩) (fun ⟨v, h1, h2⟩ => ⟨_, h1, h2⟩))
    (by rintro ⟨x0, x1, x2, x3⟩; kernel_rfl)
noncomputable def A_ref_GoodPacket : Ann := ⟨[([0, 1, 0, 1, 1, 1, 1, 1, 1], L_ref_GoodPacket_l1), ([0, 1, 0, 1, 1, 1, 1, 1, 1, 1, 1], L_ref_GoodPacket_l2)], [], [], live_ref_GoodPacket, []⟩
noncomputable def T_ref_GoodPacket (a0 : Packet) : Tr (Int) :=
  (.ite ((decide (a0.Kind < 1)) || (decide (a0.Kind > 4)))
    (.leaf 3)
    (.ite (((decide (a0.Id < 1)) || (decide (a0.Id > 1099511627776))) || (((a0.Kind == 3) || (a0.Kind == 4)) && ((((decide (a0.V < 0)) || (decide (a0.V > 5))) || (decide (a0.N < 1))) || (decide (a0.N > 1125899906842624)))))
      (.leaf 2)
      (.ite (((!((a0.Kind == 3) || (a0.Kind == 4))) && ((a0.V != 0) || (a0.N != 0))) || ((a0.Kind != 1) && ((decide (((a0.Set.length : Nat) : Int) > 0)) || (decide (((a0.Done.length : Nat) : Int) > 0)))))
        (.leaf 1)
        (.two (sh_ref_GoodPacket_l1 (-1) a0.Set ((a0.Set.length : Nat) : Int) 0 a0) (fun v1 =>
          (.leaf v1)) (fun v2 =>
          (.two (sh_ref_GoodPacket_l2 (-1) v2.Done ((v2.Done.length : Nat) : Int) 0) (fun v3 =>
            (.leaf v3)) (fun v4 =>
            (.leaf 0))))))))
noncomputable def sh_ref_GoodPacket (a0 : Packet) : Option (Int) := (T_ref_GoodPacket a0).run
noncomputable def qa_ref_GoodPacket : LQ (Packet) := (Par.q (Par.ofLP packetL))
noncomputable def qr_ref_GoodPacket : LQ (Int) := (Par.q intP)
noncomputable def F_ref_GoodPacket : SpecT := specF 0 qa_ref_GoodPacket 1 [] (fun s => T_ref_GoodPacket s) default qr_ref_GoodPacket 1 []
theorem ok_ref_GoodPacket : SpecOk Try.prog 54 (F_ref_GoodPacket).spec :=
  specF_ok (Y := Y_ref_GoodPacket) (A := A_ref_GoodPacket) hY_ref_GoodPacket Facts.mix Try.func54 (c := C_ref_GoodPacket) (by kernel_rfl) (Lc := 0) ⟨lok_ref_GoodPacket_l1, lok_ref_GoodPacket_l2, trivial⟩ qa_ref_GoodPacket 1 4 [] (fun s => T_ref_GoodPacket s) default qr_ref_GoodPacket 1 [] [] (by decide) (by kernel_rfl) (by rfl) (by decide) (by decide) (by rfl)
    (by rintro a0; kernel_rfl)

noncomputable def C_ref_bytesOf : Code := Try.f71.body.getD .skip
noncomputable def live_ref_bytesOf : List (List Nat) := [[0, 1], [0, 1, 5], [0, 1, 5, 7], [0, 1, 5], [0, 1, 5], [0, 1, 5], [4]]
noncomputable def Y_ref_bytesOf : EnvT := ⟨Try.prog, lookT []⟩
theorem hY_ref_bytesOf : (Y_ref_bytesOf).Ok := lookT_ok trivial
noncomputable def T_ref_bytesOf_l1 (x0 : Int) (x1 : Int) (x2 : ByteArray) : Tr ((Int × Int × ByteArray) ⊕ (ByteArray)) :=
  (.ite (decide (x1 > 0))
    (.guard ((256 : Int) ≠ 0)
    (.guard (0 ≤ (IntKind.u8.wrap (Int.tmod x0 256)) ∧ (IntKind.u8.wrap (Int.tmod x0 256)) < 256)
    (.guard ((⟨[UInt8.ofNat (IntKind.u8.wrap (Int.tmod x0 256)).toNat].toArray⟩ : ByteArray).size + x2.size ≤ 9223372036854775807)
    (.guard ((256 : Int) ≠ 0)
    (.leaf (.inl (IntKind.i64.wrap (Int.tdiv x0 256), IntKind.i64.wrap (x1 - 1), (⟨[UInt8.ofNat (IntKind.u8.wrap (Int.tmod x0 256)).toNat].toArray⟩ : ByteArray) ++ x2)))))))
    (.leaf (.inr x2)))
noncomputable def sh_ref_bytesOf_l1 (x0 : Int) (x1 : Int) (x2 : ByteArray) : Option (ByteArray) := iter (fun s : Int × Int × ByteArray => (T_ref_bytesOf_l1 s.1 s.2.1 s.2.2).run) (x0, x1, x2)
noncomputable def A_ref_bytesOf_l1 : Ann := ⟨[], [], [], live_ref_bytesOf, []⟩
noncomputable def q_ref_bytesOf_l1 : LQ (Int × Int × ByteArray) := (LQ.seq (Par.q intP) (LQ.seq (Par.q intP) (Par.q strP)))
noncomputable def p_ref_bytesOf_l1 : Pat := ⟨[0, 1, 5], []⟩
noncomputable def s_ref_bytesOf_l1 : List BS := []
noncomputable def q_ref_bytesOf_l1_e0 : LQ (ByteArray) := (Par.q strP)
noncomputable def p_ref_bytesOf_l1_e0 : Pat := ⟨[5], []⟩
noncomputable def s_ref_bytesOf_l1_e0 : List BS := []
noncomputable def L_ref_bytesOf_l1 : St → Option LR := pieceL q_ref_bytesOf_l1 20 0 p_ref_bytesOf_l1 s_ref_bytesOf_l1 (fun o => LR.one o (fun r => (.exit 0, stP q_ref_bytesOf_l1_e0 20 3 p_ref_bytesOf_l1_e0 s_ref_bytesOf_l1_e0 r))) (fun a => iter (fun s : Int × Int × ByteArray => (T_ref_bytesOf_l1 s.1 s.2.1 s.2.2).run) a)
noncomputable def E_ref_bytesOf_l1 : Exit → Option (End ((Int × Int × ByteArray) ⊕ (ByteArray)))
  | .normal => some ⟨_, q_ref_bytesOf_l1, p_ref_bytesOf_l1, s_ref_bytesOf_l1, fun b => .inl b⟩
  | .exit 0 => some ⟨_, q_ref_bytesOf_l1_e0, p_ref_bytesOf_l1_e0, s_ref_bytesOf_l1_e0, fun b => .inr b⟩
  | _ => none
noncomputable def O_ref_bytesOf_l1 : ((Int × Int × ByteArray) ⊕ (ByteArray)) → Exit × St
  | .inl b => (.normal, stP q_ref_bytesOf_l1 20 3 p_ref_bytesOf_l1 s_ref_bytesOf_l1 b)
  | .inr b => (.exit 0, stP q_ref_bytesOf_l1_e0 20 3 p_ref_bytesOf_l1_e0 s_ref_bytesOf_l1_e0 b)
theorem lok_ref_bytesOf_l1 : PieceOk (Y_ref_bytesOf).env 0 (sub C_ref_bytesOf [0, 0, 1, 1]) L_ref_bytesOf_l1 :=
  loop_ok (Y := Y_ref_bytesOf) (A := A_ref_bytesOf_l1) hY_ref_bytesOf Facts.mix (root := C_ref_bytesOf) (L := 0) trivial (π := [0, 0, 1, 1]) (c := loopB (sub C_ref_bytesOf [0, 0, 1, 1])) (by kernel_rfl) q_ref_bytesOf_l1 20 3 p_ref_bytesOf_l1 s_ref_bytesOf_l1 E_ref_bytesOf_l1 (fun s => T_ref_bytesOf_l1 s.1 s.2.1 s.2.2) O_ref_bytesOf_l1 (by intro e d h b; unfold E_ref_bytesOf_l1 at h; split at h <;> first | (cases h; rfl) | cases h) (fun _ => rfl) (by intro r; exact (fun h => by cases h)) (fun o => LR.one o (fun r => (.exit 0, stP q_ref_bytesOf_l1_e0 20 3 p_ref_bytesOf_l1_e0 s_ref_bytesOf_l1_e0 r))) (by intro o Q h; obtain ⟨v, h1, h2⟩ := h; exact ⟨v, h1, h2⟩)
    (by rintro ⟨x0, x1, x2⟩; kernel_rfl)
noncomputable def A_ref_bytesOf : Ann := ⟨[([0, 0, 1, 1], L_ref_bytesOf_l1)], [], [], live_ref_bytesOf, []⟩
noncomputable def T_ref_bytesOf (a0 : Int) (a1 : Int) : Tr (ByteArray) :=
  (.bind (sh_ref_bytesOf_l1 a0 a1 (⟨#[]⟩ : ByteArray)) fun v1 =>
  (.leaf v1))
noncomputable def sh_ref_bytesOf (a0 : Int) (a1 : Int) : Option (ByteArray) := (T_ref_bytesOf a0 a1).run
noncomputable def qa_ref_bytesOf : LQ (Int × Int) := (LQ.seq (Par.q intP) (Par.q intP))
noncomputable def qr_ref_bytesOf : LQ (ByteArray) := (Par.q strP)
noncomputable def F_ref_bytesOf : SpecT := specF 0 qa_ref_bytesOf 2 [] (fun s => T_ref_bytesOf s.1 s.2) default qr_ref_bytesOf 1 []
theorem ok_ref_bytesOf : SpecOk Try.prog 71 (F_ref_bytesOf).spec :=
  specF_ok (Y := Y_ref_bytesOf) (A := A_ref_bytesOf) hY_ref_bytesOf Facts.mix Try.func71 (c := C_ref_bytesOf) (by kernel_rfl) (Lc := 0) ⟨lok_ref_bytesOf_l1, trivial⟩ qa_ref_bytesOf 2 3 [] (fun s => T_ref_bytesOf s.1 s.2) default qr_ref_bytesOf 1 [] [] (by decide) (by kernel_rfl) (by rfl) (by decide) (by decide) (by rfl)
    (by rintro ⟨a0, a1⟩; kernel_rfl)

noncomputable def C_ref_EncodePacket : Code := Try.f62.body.getD .skip
noncomputable def live_ref_EncodePacket : List (List Nat) := [[1], [1, 4], [1, 4, 13], [2, 3], [1, 5], [1, 5, 36, 37, 38], [1, 5, 36, 37, 38, 39], [1, 5, 7, 36, 37, 38], [1, 5, 36, 37, 38], [1, 5, 36, 37, 38], [1, 5], [5, 59, 60, 61], [5, 59, 60, 61, 62], [5, 9, 59, 60, 61], [5, 59, 60, 61], [5, 59, 60, 61], [2, 3]]
noncomputable def Y_ref_EncodePacket : EnvT := ⟨Try.prog, lookT [(54, F_ref_GoodPacket), (71, F_ref_bytesOf)]⟩
theorem hY_ref_EncodePacket : (Y_ref_EncodePacket).Ok := lookT_ok ⟨ok_ref_GoodPacket, ok_ref_bytesOf, trivial⟩
noncomputable def T_ref_EncodePacket_l1 (x0 : ByteArray) (x1 : (List Power)) (x2 : Int) (x3 : Int) (x4 : Packet) : Tr ((ByteArray × (List Power) × Int × Int × Packet) ⊕ (ByteArray × Packet)) :=
  (.ite (decide (x3 < x2))
    (.guard ((0 : Int) ≤ x3 ∧ x3 < ((Sl.len (.powers x1) : Nat) : Int))
    (.guard ((sh_ref_bytesOf ((x1.getD x3.toNat default).V) 1).isSome = true)
    (.guard ((sh_ref_bytesOf ((x1.getD x3.toNat default).N) 7).isSome = true)
    (.guard (((sh_ref_bytesOf ((x1.getD x3.toNat default).V) 1).getD default).size + ((sh_ref_bytesOf ((x1.getD x3.toNat default).N) 7).getD default).size ≤ 9223372036854775807)
    (.guard (x0.size + (((sh_ref_bytesOf ((x1.getD x3.toNat default).V) 1).getD default) ++ ((sh_ref_bytesOf ((x1.getD x3.toNat default).N) 7).getD default)).size ≤ 9223372036854775807)
    (.leaf (.inl (x0 ++ (((sh_ref_bytesOf ((x1.getD x3.toNat default).V) 1).getD default) ++ ((sh_ref_bytesOf ((x1.getD x3.toNat default).N) 7).getD default)), x1, x2, IntKind.i64.wrap (x3 + 1), x4))))))))
    (.leaf (.inr (x0, x4))))
noncomputable def sh_ref_EncodePacket_l1 (x0 : ByteArray) (x1 : (List Power)) (x2 : Int) (x3 : Int) (x4 : Packet) : Option (ByteArray × Packet) := iter (fun s : ByteArray × (List Power) × Int × Int × Packet => (T_ref_EncodePacket_l1 s.1 s.2.1 s.2.2.1 s.2.2.2.1 s.2.2.2.2).run) (x0, x1, x2, x3, x4)
noncomputable def A_ref_EncodePacket_l1 : Ann := ⟨[], [], [], live_ref_EncodePacket, []⟩
noncomputable def q_ref_EncodePacket_l1 : LQ (ByteArray × (List Power) × Int × Int × Packet) := (LQ.skip (LQ.const (.ptr 0 0)) (LQ.seq (Par.q strP) (LQ.seq (Par.q powersP) (LQ.seq (Par.q intP) (LQ.seq (Par.q intP) (LP.q packetL))))))
noncomputable def p_ref_EncodePacket_l1 : Pat := ⟨[1, 5, 36, 37, 38], [.pub 36, .nilsl 36 (.powers [])]⟩
noncomputable def s_ref_EncodePacket_l1 : List BS := [.cells 56 6]
noncomputable def q_ref_EncodePacket_l1_e0 : LQ (ByteArray × Packet) := (LQ.skip (LQ.const (.ptr 0 0)) (LQ.seq (Par.q strP) (LP.q packetL)))
noncomputable def p_ref_EncodePacket_l1_e0 : Pat := ⟨[1, 5], []⟩
noncomputable def s_ref_EncodePacket_l1_e0 : List BS := [.cells 56 6]
noncomputable def L_ref_EncodePacket_l1 : St → Option LR := pieceL q_ref_EncodePacket_l1 71 0 p_ref_EncodePacket_l1 s_ref_EncodePacket_l1 (fun o => LR.one o (fun r => (.exit 0, stP q_ref_EncodePacket_l1_e0 71 4 p_ref_EncodePacket_l1_e0 s_ref_EncodePacket_l1_e0 r))) (fun a => iter (fun s : ByteArray × (List Power) × Int × Int × Packet => (T_ref_EncodePacket_l1 s.1 s.2.1 s.2.2.1 s.2.2.2.1 s.2.2.2.2).run) a)
noncomputable def E_ref_EncodePacket_l1 : Exit → Option (End ((ByteArray × (List Power) × Int × Int × Packet) ⊕ (ByteArray × Packet)))
  | .normal => some ⟨_, q_ref_EncodePacket_l1, p_ref_EncodePacket_l1, s_ref_EncodePacket_l1, fun b => .inl b⟩
  | .exit 0 => some ⟨_, q_ref_EncodePacket_l1_e0, p_ref_EncodePacket_l1_e0, s_ref_EncodePacket_l1_e0, fun b => .inr b⟩
  | _ => none
noncomputable def O_ref_EncodePacket_l1 : ((ByteArray × (List Power) × Int × Int × Packet) ⊕ (ByteArray × Packet)) → Exit × St
  | .inl b => (.normal, stP q_ref_EncodePacket_l1 71 4 p_ref_EncodePacket_l1 s_ref_EncodePacket_l1 b)
  | .inr b => (.exit 0, stP q_ref_EncodePacket_l1_e0 71 4 p_ref_EncodePacket_l1_e0 s_ref_EncodePacket_l1_e0 b)
theorem lok_ref_EncodePacket_l1 : PieceOk (Y_ref_EncodePacket).env 0 (sub C_ref_EncodePacket [0, 1, 0, 1, 1, 1, 1]) L_ref_EncodePacket_l1 :=
  loop_ok (Y := Y_ref_EncodePacket) (A := A_ref_EncodePacket_l1) hY_ref_EncodePacket Facts.mix (root := C_ref_EncodePacket) (L := 0) trivial (π := [0, 1, 0, 1, 1, 1, 1]) (c := loopB (sub C_ref_EncodePacket [0, 1, 0, 1, 1, 1, 1])) (by kernel_rfl) q_ref_EncodePacket_l1 71 4 p_ref_EncodePacket_l1 s_ref_EncodePacket_l1 E_ref_EncodePacket_l1 (fun s => T_ref_EncodePacket_l1 s.1 s.2.1 s.2.2.1 s.2.2.2.1 s.2.2.2.2) O_ref_EncodePacket_l1 (by intro e d h b; unfold E_ref_EncodePacket_l1 at h; split at h <;> first | (cases h; rfl) | cases h) (fun _ => rfl) (by intro r; exact (fun h => by cases h)) (fun o => LR.one o (fun r => (.exit 0, stP q_ref_EncodePacket_l1_e0 71 4 p_ref_EncodePacket_l1_e0 s_ref_EncodePacket_l1_e0 r))) (by intro o Q h; obtain ⟨v, h1, h2⟩ := h; exact ⟨v, h1, h2⟩)
    (by rintro ⟨x0, x1, x2, x3, x4⟩; kernel_rfl)
noncomputable def T_ref_EncodePacket_l2 (x0 : ByteArray) (x1 : (List Int)) (x2 : Int) (x3 : Int) : Tr ((ByteArray × (List Int) × Int × Int) ⊕ (ByteArray)) :=
  (.ite (decide (x3 < x2))
    (.guard ((0 : Int) ≤ x3 ∧ x3 < ((Sl.len (.ints x1) : Nat) : Int))
    (.bind (sh_ref_bytesOf (x1.getD x3.toNat 0) 1) fun v4 =>
    (.guard (x0.size + v4.size ≤ 9223372036854775807)
    (.leaf (.inl (x0 ++ v4, x1, x2, IntKind.i64.wrap (x3 + 1)))))))
    (.leaf (.inr x0)))
noncomputable def sh_ref_EncodePacket_l2 (x0 : ByteArray) (x1 : (List Int)) (x2 : Int) (x3 : Int) : Option (ByteArray) := iter (fun s : ByteArray × (List Int) × Int × Int => (T_ref_EncodePacket_l2 s.1 s.2.1 s.2.2.1 s.2.2.2).run) (x0, x1, x2, x3)
noncomputable def A_ref_EncodePacket_l2 : Ann := ⟨[], [], [], live_ref_EncodePacket, []⟩
noncomputable def q_ref_EncodePacket_l2 : LQ (ByteArray × (List Int) × Int × Int) := (LQ.seq (Par.q strP) (LQ.seq (Par.q intsP) (LQ.seq (Par.q intP) (Par.q intP))))
noncomputable def p_ref_EncodePacket_l2 : Pat := ⟨[5, 59, 60, 61], [.pub 59, .nilsl 59 (.ints [])]⟩
noncomputable def s_ref_EncodePacket_l2 : List BS := []
noncomputable def q_ref_EncodePacket_l2_e0 : LQ (ByteArray) := (Par.q strP)
noncomputable def p_ref_EncodePacket_l2_e0 : Pat := ⟨[5], []⟩
noncomputable def s_ref_EncodePacket_l2_e0 : List BS := []
noncomputable def L_ref_EncodePacket_l2 : St → Option LR := pieceL q_ref_EncodePacket_l2 71 0 p_ref_EncodePacket_l2 s_ref_EncodePacket_l2 (fun o => LR.one o (fun r => (.exit 2, stP q_ref_EncodePacket_l2_e0 71 4 p_ref_EncodePacket_l2_e0 s_ref_EncodePacket_l2_e0 r))) (fun a => iter (fun s : ByteArray × (List Int) × Int × Int => (T_ref_EncodePacket_l2 s.1 s.2.1 s.2.2.1 s.2.2.2).run) a)
noncomputable def E_ref_EncodePacket_l2 : Exit → Option (End ((ByteArray × (List Int) × Int × Int) ⊕ (ByteArray)))
  | .normal => some ⟨_, q_ref_EncodePacket_l2, p_ref_EncodePacket_l2, s_ref_EncodePacket_l2, fun b => .inl b⟩
  | .exit 2 => some ⟨_, q_ref_EncodePacket_l2_e0, p_ref_EncodePacket_l2_e0, s_ref_EncodePacket_l2_e0, fun b => .inr b⟩
  | _ => none
noncomputable def O_ref_EncodePacket_l2 : ((ByteArray × (List Int) × Int × Int) ⊕ (ByteArray)) → Exit × St
  | .inl b => (.normal, stP q_ref_EncodePacket_l2 71 4 p_ref_EncodePacket_l2 s_ref_EncodePacket_l2 b)
  | .inr b => (.exit 2, stP q_ref_EncodePacket_l2_e0 71 4 p_ref_EncodePacket_l2_e0 s_ref_EncodePacket_l2_e0 b)
theorem lok_ref_EncodePacket_l2 : PieceOk (Y_ref_EncodePacket).env 0 (sub C_ref_EncodePacket [0, 1, 0, 1, 1, 1, 1, 1, 1]) L_ref_EncodePacket_l2 :=
  loop_ok (Y := Y_ref_EncodePacket) (A := A_ref_EncodePacket_l2) hY_ref_EncodePacket Facts.mix (root := C_ref_EncodePacket) (L := 0) trivial (π := [0, 1, 0, 1, 1, 1, 1, 1, 1]) (c := loopB (sub C_ref_EncodePacket [0, 1, 0, 1, 1, 1, 1, 1, 1])) (by kernel_rfl) q_ref_EncodePacket_l2 71 4 p_ref_EncodePacket_l2 s_ref_EncodePacket_l2 E_ref_EncodePacket_l2 (fun s => T_ref_EncodePacket_l2 s.1 s.2.1 s.2.2.1 s.2.2.2) O_ref_EncodePacket_l2 (by intro e d h b; unfold E_ref_EncodePacket_l2 at h; split at h <;> first | (cases h; rfl) | cases h) (fun _ => rfl) (by intro r; exact (fun h => by cases h)) (fun o => LR.one o (fun r => (.exit 2, stP q_ref_EncodePacket_l2_e0 71 4 p_ref_EncodePacket_l2_e0 s_ref_EncodePacket_l2_e0 r))) (by intro o Q h; obtain ⟨v, h1, h2⟩ := h; exact ⟨v, h1, h2⟩)
    (by rintro ⟨x0, x1, x2, x3⟩; kernel_rfl)
noncomputable def A_ref_EncodePacket : Ann := ⟨[([0, 1, 0, 1, 1, 1, 1], L_ref_EncodePacket_l1), ([0, 1, 0, 1, 1, 1, 1, 1, 1], L_ref_EncodePacket_l2)], [], [], live_ref_EncodePacket, []⟩
noncomputable def T_ref_EncodePacket (a0 : Packet) : Tr (ByteArray × Int) :=
  (.bind (sh_ref_GoodPacket a0) fun v1 =>
  (.ite (v1 != 0)
    (.leaf ((⟨#[]⟩ : ByteArray), v1))
    (.guard ((sh_ref_bytesOf a0.Kind 1).isSome = true)
    (.guard ((sh_ref_bytesOf a0.Id 6).isSome = true)
    (.guard (((sh_ref_bytesOf a0.Kind 1).getD default).size + ((sh_ref_bytesOf a0.Id 6).getD default).size ≤ 9223372036854775807)
    (.guard ((sh_ref_bytesOf a0.V 1).isSome = true)
    (.guard ((((sh_ref_bytesOf a0.Kind 1).getD default) ++ ((sh_ref_bytesOf a0.Id 6).getD default)).size + ((sh_ref_bytesOf a0.V 1).getD default).size ≤ 9223372036854775807)
    (.guard ((sh_ref_bytesOf a0.N 7).isSome = true)
    (.guard (((((sh_ref_bytesOf a0.Kind 1).getD default) ++ ((sh_ref_bytesOf a0.Id 6).getD default)) ++ ((sh_ref_bytesOf a0.V 1).getD default)).size + ((sh_ref_bytesOf a0.N 7).getD default).size ≤ 9223372036854775807)
    (.guard ((sh_ref_bytesOf ((a0.Set.length : Nat) : Int) 1).isSome = true)
    (.guard ((((((sh_ref_bytesOf a0.Kind 1).getD default) ++ ((sh_ref_bytesOf a0.Id 6).getD default)) ++ ((sh_ref_bytesOf a0.V 1).getD default)) ++ ((sh_ref_bytesOf a0.N 7).getD default)).size + ((sh_ref_bytesOf ((a0.Set.length : Nat) : Int) 1).getD default).size ≤ 9223372036854775807)
    (.bind (sh_ref_EncodePacket_l1 ((((((sh_ref_bytesOf a0.Kind 1).getD default) ++ ((sh_ref_bytesOf a0.Id 6).getD default)) ++ ((sh_ref_bytesOf a0.V 1).getD default)) ++ ((sh_ref_bytesOf a0.N 7).getD default)) ++ ((sh_ref_bytesOf ((a0.Set.length : Nat) : Int) 1).getD default)) a0.Set ((a0.Set.length : Nat) : Int) 0 a0) fun v2 =>
    (.bind (sh_ref_bytesOf ((v2.2.Done.length : Nat) : Int) 1) fun v3 =>
    (.guard (v2.1.size + v3.size ≤ 9223372036854775807)
    (.bind (sh_ref_EncodePacket_l2 (v2.1 ++ v3) v2.2.Done ((v2.2.Done.length : Nat) : Int) 0) fun v5 =>
    (.leaf (v5, 0)))))))))))))))))
noncomputable def sh_ref_EncodePacket (a0 : Packet) : Option (ByteArray × Int) := (T_ref_EncodePacket a0).run
noncomputable def qa_ref_EncodePacket : LQ (Packet) := (Par.q (Par.ofLP packetL))
noncomputable def qr_ref_EncodePacket : LQ (ByteArray × Int) := (LQ.seq (Par.q strP) (Par.q intP))
noncomputable def F_ref_EncodePacket : SpecT := specF 0 qa_ref_EncodePacket 1 [] (fun s => T_ref_EncodePacket s) default qr_ref_EncodePacket 2 []
theorem ok_ref_EncodePacket : SpecOk Try.prog 62 (F_ref_EncodePacket).spec :=
  specF_ok (Y := Y_ref_EncodePacket) (A := A_ref_EncodePacket) hY_ref_EncodePacket Facts.mix Try.func62 (c := C_ref_EncodePacket) (by kernel_rfl) (Lc := 0) ⟨lok_ref_EncodePacket_l1, lok_ref_EncodePacket_l2, trivial⟩ qa_ref_EncodePacket 1 4 [] (fun s => T_ref_EncodePacket s) default qr_ref_EncodePacket 2 [] [] (by decide) (by kernel_rfl) (by rfl) (by decide) (by decide) (by rfl)
    (by rintro a0; kernel_rfl)

noncomputable def C_ref_numberOf : Code := Try.f64.body.getD .skip
noncomputable def live_ref_numberOf : List (List Nat) := [[0], [0, 3], [3, 7, 8, 9], [3, 7, 8, 9, 10], [3, 5, 7, 8, 9], [3, 7, 8, 9], [3, 7, 8, 9], [2]]
noncomputable def Y_ref_numberOf : EnvT := ⟨Try.prog, lookT []⟩
theorem hY_ref_numberOf : (Y_ref_numberOf).Ok := lookT_ok trivial
noncomputable def T_ref_numberOf_l1 (x0 : Int) (x1 : (List UInt8)) (x2 : Int) (x3 : Int) : Tr ((Int × (List UInt8) × Int × Int) ⊕ (Int)) :=
  (.ite (decide (x3 < x2))
    (.guard ((0 : Int) ≤ x3 ∧ x3 < ((Sl.len (.bytes x1) : Nat) : Int))
    (.leaf (.inl (IntKind.i64.wrap ((IntKind.i64.wrap (256 * x0)) + (IntKind.i64.wrap (((x1.getD x3.toNat 0).toNat : Nat) : Int))), x1, x2, IntKind.i64.wrap (x3 + 1)))))
    (.leaf (.inr x0)))
noncomputable def sh_ref_numberOf_l1 (x0 : Int) (x1 : (List UInt8)) (x2 : Int) (x3 : Int) : Option (Int) := iter (fun s : Int × (List UInt8) × Int × Int => (T_ref_numberOf_l1 s.1 s.2.1 s.2.2.1 s.2.2.2).run) (x0, x1, x2, x3)
noncomputable def A_ref_numberOf_l1 : Ann := ⟨[], [], [], live_ref_numberOf, []⟩
noncomputable def q_ref_numberOf_l1 : LQ (Int × (List UInt8) × Int × Int) := (LQ.seq (Par.q intP) (LQ.seq (Par.q bytesP) (LQ.seq (Par.q intP) (Par.q intP))))
noncomputable def p_ref_numberOf_l1 : Pat := ⟨[3, 7, 8, 9], [.pub 7, .nilsl 7 (.bytes [])]⟩
noncomputable def s_ref_numberOf_l1 : List BS := []
noncomputable def q_ref_numberOf_l1_e0 : LQ (Int) := (Par.q intP)
noncomputable def p_ref_numberOf_l1_e0 : Pat := ⟨[3], []⟩
noncomputable def s_ref_numberOf_l1_e0 : List BS := []
noncomputable def L_ref_numberOf_l1 : St → Option LR := pieceL q_ref_numberOf_l1 20 0 p_ref_numberOf_l1 s_ref_numberOf_l1 (fun o => LR.one o (fun r => (.exit 0, stP q_ref_numberOf_l1_e0 20 2 p_ref_numberOf_l1_e0 s_ref_numberOf_l1_e0 r))) (fun a => iter (fun s : Int × (List UInt8) × Int × Int => (T_ref_numberOf_l1 s.1 s.2.1 s.2.2.1 s.2.2.2).run) a)
noncomputable def E_ref_numberOf_l1 : Exit → Option (End ((Int × (List UInt8) × Int × Int) ⊕ (Int)))
  | .normal => some ⟨_, q_ref_numberOf_l1, p_ref_numberOf_l1, s_ref_numberOf_l1, fun b => .inl b⟩
  | .exit 0 => some ⟨_, q_ref_numberOf_l1_e0, p_ref_numberOf_l1_e0, s_ref_numberOf_l1_e0, fun b => .inr b⟩
  | _ => none
noncomputable def O_ref_numberOf_l1 : ((Int × (List UInt8) × Int × Int) ⊕ (Int)) → Exit × St
  | .inl b => (.normal, stP q_ref_numberOf_l1 20 2 p_ref_numberOf_l1 s_ref_numberOf_l1 b)
  | .inr b => (.exit 0, stP q_ref_numberOf_l1_e0 20 2 p_ref_numberOf_l1_e0 s_ref_numberOf_l1_e0 b)
theorem lok_ref_numberOf_l1 : PieceOk (Y_ref_numberOf).env 0 (sub C_ref_numberOf [0, 1, 0, 1, 1]) L_ref_numberOf_l1 :=
  loop_ok (Y := Y_ref_numberOf) (A := A_ref_numberOf_l1) hY_ref_numberOf Facts.mix (root := C_ref_numberOf) (L := 0) trivial (π := [0, 1, 0, 1, 1]) (c := loopB (sub C_ref_numberOf [0, 1, 0, 1, 1])) (by kernel_rfl) q_ref_numberOf_l1 20 2 p_ref_numberOf_l1 s_ref_numberOf_l1 E_ref_numberOf_l1 (fun s => T_ref_numberOf_l1 s.1 s.2.1 s.2.2.1 s.2.2.2) O_ref_numberOf_l1 (by intro e d h b; unfold E_ref_numberOf_l1 at h; split at h <;> first | (cases h; rfl) | cases h) (fun _ => rfl) (by intro r; exact (fun h => by cases h)) (fun o => LR.one o (fun r => (.exit 0, stP q_ref_numberOf_l1_e0 20 2 p_ref_numberOf_l1_e0 s_ref_numberOf_l1_e0 r))) (by intro o Q h; obtain ⟨v, h1, h2⟩ := h; exact ⟨v, h1, h2⟩)
    (by rintro ⟨x0, x1, x2, x3⟩; kernel_rfl)
noncomputable def A_ref_numberOf : Ann := ⟨[([0, 1, 0, 1, 1], L_ref_numberOf_l1)], [], [], live_ref_numberOf, []⟩
noncomputable def T_ref_numberOf (a0 : ByteArray) : Tr (Int) :=
  (.guard (a0.size ≤ 9223372036854775807)
  (.bind (sh_ref_numberOf_l1 0 a0.data.toList ((a0.data.toList.length : Nat) : Int) 0) fun v1 =>
  (.leaf v1)))
noncomputable def sh_ref_numberOf (a0 : ByteArray) : Option (Int) := (T_ref_numberOf a0).run
noncomputable def qa_ref_numberOf : LQ (ByteArray) := (Par.q strP)
noncomputable def qr_ref_numberOf : LQ (Int) := (Par.q intP)
noncomputable def F_ref_numberOf : SpecT := specF 0 qa_ref_numberOf 1 [] (fun s => T_ref_numberOf s) default qr_ref_numberOf 1 []
theorem ok_ref_numberOf : SpecOk Try.prog 64 (F_ref_numberOf).spec :=
  specF_ok (Y := Y_ref_numberOf) (A := A_ref_numberOf) hY_ref_numberOf Facts.mix Try.func64 (c := C_ref_numberOf) (by kernel_rfl) (Lc := 0) ⟨lok_ref_numberOf_l1, trivial⟩ qa_ref_numberOf 1 2 [] (fun s => T_ref_numberOf s) default qr_ref_numberOf 1 [] [] (by decide) (by kernel_rfl) (by rfl) (by decide) (by decide) (by rfl)
    (by rintro a0; kernel_rfl)

noncomputable def C_ref_DecodePacket : Code := Try.f49.body.getD .skip
noncomputable def live_ref_DecodePacket : List (List Nat) := [[0, 2], [0, 2, 4], [0, 2, 4, 15], [2, 3], [0, 2, 4, 5], [0, 2, 4, 5, 25], [2, 3], [0, 2, 4, 5, 6], [0, 2, 4, 5, 6, 40], [2, 3], [0, 2, 4, 5, 6, 7], [0, 2, 4, 5, 6, 7, 8], [0, 2, 4, 5, 6, 7, 8, 57], [0, 2, 4, 5, 6, 7, 8], [0, 2, 4, 5, 6, 7, 8, 9], [0, 2, 4, 5, 6, 7, 8], [0, 2, 4, 5, 6, 7, 10], [0, 2, 4, 5, 6, 7, 10, 82], [0, 2, 4, 5, 6, 7, 10], [0, 2, 4, 5, 6, 7, 10], [2, 4, 7, 11], [2, 4, 7, 11, 101], [2, 3], [2, 3]]
noncomputable def Y_ref_DecodePacket : EnvT := ⟨Try.prog, lookT [(64, F_ref_numberOf), (54, F_ref_GoodPacket)]⟩
theorem hY_ref_DecodePacket : (Y_ref_DecodePacket).Ok := lookT_ok ⟨ok_ref_numberOf, ok_ref_GoodPacket, trivial⟩
noncomputable def T_ref_DecodePacket_l1 (x0 : ByteArray) (x1 : Int) (x2 : Int) (x3 : Int) (x4 : Packet) (x5 : Packet) (x6 : Packet) : Tr ((ByteArray × Int × Int × Int × Packet × Packet × Packet) ⊕ (ByteArray × Int × Int × Packet × Packet × Packet)) :=
  (.ite (decide (x3 < x1))
    (.guard ((0 : Int) ≤ (IntKind.i64.wrap (16 + (IntKind.i64.wrap (8 * x3)))) ∧ (IntKind.i64.wrap (16 + (IntKind.i64.wrap (8 * x3)))) < ((x0.size : Nat) : Int))
    (.guard ((0 : Int) ≤ (IntKind.i64.wrap ((IntKind.i64.wrap (16 + (IntKind.i64.wrap (8 * x3)))) + 1)) ∧ (IntKind.i64.wrap ((IntKind.i64.wrap (16 + (IntKind.i64.wrap (8 * x3)))) + 1)) ≤ ((IntKind.i64.wrap ((IntKind.i64.wrap (16 + (IntKind.i64.wrap (8 * x3)))) + 8)) : Int) ∧ (IntKind.i64.wrap ((IntKind.i64.wrap (16 + (IntKind.i64.wrap (8 * x3)))) + 8)) ≤ ((x0.size : Nat) : Int))
    (.guard ((sh_ref_numberOf (x0.extract (IntKind.i64.wrap ((IntKind.i64.wrap (16 + (IntKind.i64.wrap (8 * x3)))) + 1)).toNat (IntKind.i64.wrap ((IntKind.i64.wrap (16 + (IntKind.i64.wrap (8 * x3)))) + 8)).toNat)).isSome = true)
    (.guard ((Sl.len (.powers x6.Set) + Sl.len (.powers [(⟨IntKind.i64.wrap (((x0.data.toList.getD (IntKind.i64.wrap (16 + (IntKind.i64.wrap (8 * x3)))).toNat 0).toNat : Nat) : Int), ((sh_ref_numberOf (x0.extract (IntKind.i64.wrap ((IntKind.i64.wrap (16 + (IntKind.i64.wrap (8 * x3)))) + 1)).toNat (IntKind.i64.wrap ((IntKind.i64.wrap (16 + (IntKind.i64.wrap (8 * x3)))) + 8)).toNat)).getD default)⟩ : Power)])) * 16 ≤ 140737488355328)
    (.leaf (.inl (x0, x1, x2, IntKind.i64.wrap (x3 + 1), x4, x5, { (x6 : Packet) with Set := x6.Set ++ [(⟨IntKind.i64.wrap (((x0.data.toList.getD (IntKind.i64.wrap (16 + (IntKind.i64.wrap (8 * x3)))).toNat 0).toNat : Nat) : Int), ((sh_ref_numberOf (x0.extract (IntKind.i64.wrap ((IntKind.i64.wrap (16 + (IntKind.i64.wrap (8 * x3)))) + 1)).toNat (IntKind.i64.wrap ((IntKind.i64.wrap (16 + (IntKind.i64.wrap (8 * x3)))) + 8)).toNat)).getD default)⟩ : Power)] })))))))
    (.leaf (.inr (x0, x1, x2, x4, x5, x6))))
noncomputable def sh_ref_DecodePacket_l1 (x0 : ByteArray) (x1 : Int) (x2 : Int) (x3 : Int) (x4 : Packet) (x5 : Packet) (x6 : Packet) : Option (ByteArray × Int × Int × Packet × Packet × Packet) := iter (fun s : ByteArray × Int × Int × Int × Packet × Packet × Packet => (T_ref_DecodePacket_l1 s.1 s.2.1 s.2.2.1 s.2.2.2.1 s.2.2.2.2.1 s.2.2.2.2.2.1 s.2.2.2.2.2.2).run) (x0, x1, x2, x3, x4, x5, x6)
noncomputable def A_ref_DecodePacket_l1 : Ann := ⟨[], [], [], live_ref_DecodePacket, []⟩
noncomputable def q_ref_DecodePacket_l1 : LQ (ByteArray × Int × Int × Int × Packet × Packet × Packet) := (LQ.map (LQ.seq (Par.q strP) (LQ.skip (LQ.const (.ptr 0 0)) (LQ.skip (LQ.const (.ptr 1 0)) (LQ.seq (Par.q intP) (LQ.seq (Par.q intP) (LQ.skip (LQ.const (.ptr 2 0)) (LQ.seq (Par.q intP) (LQ.seq (Par.q intP) (LQ.seq (Par.q intP) (LQ.seq (Par.q intP) (LQ.seq (Par.q intP) (LQ.skip (LQ.const (.own 3)) (LQ.skip (LQ.const (.own 4)) (LQ.seq (Par.q intP) (LQ.seq (Par.q intP) (LQ.seq (Par.q intP) (LQ.seq (Par.q intP) (LQ.skip (LQ.const (.own 5)) (LQ.skip (LQ.const (.own 6)) (LQ.seq (Par.q intP) (LQ.seq (Par.q intP) (LQ.seq (Par.q intP) (LQ.seq (Par.q intP) (LQ.skip (LQ.const (.own 7)) (LQ.skip (LQ.const (.own 8)) (LQ.seq (Par.q powersP) (LQ.seq (Par.q intsP) (LQ.seq (Par.q powersP) (LQ.seq (Par.q intsP) (LQ.seq (Par.q powersP) (Par.q intsP))))))))))))))))))))))))))))))) (fun x : ByteArray × Int × Int × Int × Int × Int × Int × Int × Int × Int × Int × Int × Int × Int × Int × Int × (List Power) × (List Int) × (List Power) × (List Int) × (List Power) × (List Int) => ((x.1, x.2.1, x.2.2.1, x.2.2.2.1, (⟨x.2.2.2.2.1, x.2.2.2.2.2.1, x.2.2.2.2.2.2.1, x.2.2.2.2.2.2.2.1, x.2.2.2.2.2.2.2.2.2.2.2.2.2.2.2.2.1, x.2.2.2.2.2.2.2.2.2.2.2.2.2.2.2.2.2.1⟩ : Packet), (⟨x.2.2.2.2.2.2.2.2.1, x.2.2.2.2.2.2.2.2.2.1, x.2.2.2.2.2.2.2.2.2.2.1, x.2.2.2.2.2.2.2.2.2.2.2.1, x.2.2.2.2.2.2.2.2.2.2.2.2.2.2.2.2.2.2.1, x.2.2.2.2.2.2.2.2.2.2.2.2.2.2.2.2.2.2.2.1⟩ : Packet), (⟨x.2.2.2.2.2.2.2.2.2.2.2.2.1, x.2.2.2.2.2.2.2.2.2.2.2.2.2.1, x.2.2.2.2.2.2.2.2.2.2.2.2.2.2.1, x.2.2.2.2.2.2.2.2.2.2.2.2.2.2.2.1, x.2.2.2.2.2.2.2.2.2.2.2.2.2.2.2.2.2.2.2.2.1, x.2.2.2.2.2.2.2.2.2.2.2.2.2.2.2.2.2.2.2.2.2⟩ : Packet)) : ByteArray × Int × Int × Int × Packet × Packet × Packet)) (fun y => (y.1, y.2.1, y.2.2.1, y.2.2.2.1, y.2.2.2.2.1.Kind, y.2.2.2.2.1.Id, y.2.2.2.2.1.V, y.2.2.2.2.1.N, y.2.2.2.2.2.1.Kind, y.2.2.2.2.2.1.Id, y.2.2.2.2.2.1.V, y.2.2.2.2.2.1.N, y.2.2.2.2.2.2.Kind, y.2.2.2.2.2.2.Id, y.2.2.2.2.2.2.V, y.2.2.2.2.2.2.N, y.2.2.2.2.1.Set, y.2.2.2.2.1.Done, y.2.2.2.2.2.1.Set, y.2.2.2.2.2.1.Done, y.2.2.2.2.2.2.Set, y.2.2.2.2.2.2.Done)) (fun _ => rfl))
noncomputable def p_ref_DecodePacket_l1 : Pat := ⟨[0, 2, 4, 5, 6, 7, 8], [.nilcell 2 4 52 (.powers []), .nilcell 2 5 3 (.ints []), .nilcell 4 4 52 (.powers []), .nilcell 4 5 3 (.ints []), .nilcell 7 4 52 (.powers []), .nilcell 7 5 3 (.ints [])]⟩
noncomputable def s_ref_DecodePacket_l1 : List BS := [.cells 56 6, .cells 56 6, .cells 56 6, .rows 52, .rows 3, .rows 52, .rows 3, .rows 52, .rows 3]
noncomputable def q_ref_DecodePacket_l1_e0 : LQ (ByteArray × Int × Int × Packet × Packet × Packet) := (LQ.map (LQ.seq (Par.q strP) (LQ.skip (LQ.const (.ptr 0 0)) (LQ.skip (LQ.const (.ptr 1 0)) (LQ.seq (Par.q intP) (LQ.seq (Par.q intP) (LQ.skip (LQ.const (.ptr 2 0)) (LQ.seq (Par.q intP) (LQ.seq (Par.q intP) (LQ.seq (Par.q intP) (LQ.seq (Par.q intP) (LQ.skip (LQ.const (.own 3)) (LQ.skip (LQ.const (.own 4)) (LQ.seq (Par.q intP) (LQ.seq (Par.q intP) (LQ.seq (Par.q intP) (LQ.seq (Par.q intP) (LQ.skip (LQ.const (.own 5)) (LQ.skip (LQ.const (.own 6)) (LQ.seq (Par.q intP) (LQ.seq (Par.q intP) (LQ.seq (Par.q intP) (LQ.seq (Par.q intP) (LQ.skip (LQ.const (.own 7)) (LQ.skip (LQ.const (.own 8)) (LQ.seq (Par.q powersP) (LQ.seq (Par.q intsP) (LQ.seq (Par.q powersP) (LQ.seq (Par.q intsP) (LQ.seq (Par.q powersP) (Par.q intsP)))))))))))))))))))))))))))))) (fun x : ByteArray × Int × Int × Int × Int × Int × Int × Int × Int × Int × Int × Int × Int × Int × Int × (List Power) × (List Int) × (List Power) × (List Int) × (List Power) × (List Int) => ((x.1, x.2.1, x.2.2.1, (⟨x.2.2.2.1, x.2.2.2.2.1, x.2.2.2.2.2.1, x.2.2.2.2.2.2.1, x.2.2.2.2.2.2.2.2.2.2.2.2.2.2.2.1, x.2.2.2.2.2.2.2.2.2.2.2.2.2.2.2.2.1⟩ : Packet), (⟨x.2.2.2.2.2.2.2.1, x.2.2.2.2.2.2.2.2.1, x.2.2.2.2.2.2.2.2.2.1, x.2.2.2.2.2.2.2.2.2.2.1, x.2.2.2.2.2.2.2.2.2.2.2.2.2.2.2.2.2.1, x.2.2.2.2.2.2.2.2.2.2.2.2.2.2.2.2.2.2.1⟩ : Packet), (⟨x.2.2.2.2.2.2.2.2.2.2.2.1, x.2.2.2.2.2.2.2.2.2.2.2.2.1, x.2.2.2.2.2.2.2.2.2.2.2.2.2.1, x.2.2.2.2.2.2.2.2.2.2.2.2.2.2.1, x.2.2.2.2.2.2.2.2.2.2.2.2.2.2.2.2.2.2.2.1, x.2.2.2.2.2.2.2.2.2.2.2.2.2.2.2.2.2.2.2.2⟩ : Packet)) : ByteArray × Int × Int × Packet × Packet × Packet)) (fun y => (y.1, y.2.1, y.2.2.1, y.2.2.2.1.Kind, y.2.2.2.1.Id, y.2.2.2.1.V, y.2.2.2.1.N, y.2.2.2.2.1.Kind, y.2.2.2.2.1.Id, y.2.2.2.2.1.V, y.2.2.2.2.1.N, y.2.2.2.2.2.Kind, y.2.2.2.2.2.Id, y.2.2.2.2.2.V, y.2.2.2.2.2.N, y.2.2.2.1.Set, y.2.2.2.1.Done, y.2.2.2.2.1.Set, y.2.2.2.2.1.Done, y.2.2.2.2.2.Set, y.2.2.2.2.2.Done)) (fun _ => rfl))
noncomputable def p_ref_DecodePacket_l1_e0 : Pat := ⟨[0, 2, 4, 5, 6, 7], [.nilcell 2 4 52 (.powers []), .nilcell 2 5 3 (.ints []), .nilcell 4 4 52 (.powers []), .nilcell 4 5 3 (.ints []), .nilcell 7 4 52 (.powers []), .nilcell 7 5 3 (.ints [])]⟩
noncomputable def s_ref_DecodePacket_l1_e0 : List BS := [.cells 56 6, .cells 56 6, .cells 56 6, .rows 52, .rows 3, .rows 52, .rows 3, .rows 52, .rows 3]
noncomputable def L_ref_DecodePacket_l1 : St → Option LR := pieceL q_ref_DecodePacket_l1 105 0 p_ref_DecodePacket_l1 s_ref_DecodePacket_l1 (fun o => LR.one o (fun r => (.exit 0, stP q_ref_DecodePacket_l1_e0 105 13 p_ref_DecodePacket_l1_e0 s_ref_DecodePacket_l1_e0 r))) (fun a => iter (fun s : ByteArray × Int × Int × Int × Packet × Packet × Packet => (T_ref_DecodePacket_l1 s.1 s.2.1 s.2.2.1 s.2.2.2.1 s.2.2.2.2.1 s.2.2.2.2.2.1 s.2.2.2.2.2.2).run) a)
noncomputable def E_ref_DecodePacket_l1 : Exit → Option (End ((ByteArray × Int × Int × Int × Packet × Packet × Packet) ⊕ (ByteArray × Int × Int × Packet × Packet × Packet)))
  | .normal => some ⟨_, q_ref_DecodePacket_l1, p_ref_DecodePacket_l1, s_ref_DecodePacket_l1, fun b => .inl b⟩
  | .exit 0 => some ⟨_, q_ref_DecodePacket_l1_e0, p_ref_DecodePacket_l1_e0, s_ref_DecodePacket_l1_e0, fun b => .inr b⟩
  | _ => none
noncomputable def O_ref_DecodePacket_l1 : ((ByteArray × Int × Int × Int × Packet × Packet × Packet) ⊕ (ByteArray × Int × Int × Packet × Packet × Packet)) → Exit × St
  | .inl b => (.normal, stP q_ref_DecodePacket_l1 105 13 p_ref_DecodePacket_l1 s_ref_DecodePacket_l1 b)
  | .inr b => (.exit 0, stP q_ref_DecodePacket_l1_e0 105 13 p_ref_DecodePacket_l1_e0 s_ref_DecodePacket_l1_e0 b)
theorem lok_ref_DecodePacket_l1 : PieceOk (Y_ref_DecodePacket).env 0 (sub C_ref_DecodePacket [0, 1, 0, 1, 1, 1, 1, 1, 1, 1, 1]) L_ref_DecodePacket_l1 :=
  loop_ok (Y := Y_ref_DecodePacket) (A := A_ref_DecodePacket_l1) hY_ref_DecodePacket Facts.mix (root := C_ref_DecodePacket) (L := 0) trivial (π := [0, 1, 0, 1, 1, 1, 1, 1, 1, 1, 1]) (c := loopB (sub C_ref_DecodePacket [0, 1, 0, 1, 1, 1, 1, 1, 1, 1, 1])) (by kernel_rfl) q_ref_DecodePacket_l1 105 13 p_ref_DecodePacket_l1 s_ref_DecodePacket_l1 E_ref_DecodePacket_l1 (fun s => T_ref_DecodePacket_l1 s.1 s.2.1 s.2.2.1 s.2.2.2.1 s.2.2.2.2.1 s.2.2.2.2.2.1 s.2.2.2.2.2.2) O_ref_DecodePacket_l1 (by intro e d h b; unfold E_ref_DecodePacket_l1 at h; split at h <;> first | (cases h; rfl) | cases h) (fun _ => rfl) (by intro r; exact (fun h => by cases h)) (fun o => LR.one o (fun r => (.exit 0, stP q_ref_DecodePacket_l1_e0 105 13 p_ref_DecodePacket_l1_e0 s_ref_DecodePacket_l1_e0 r))) (by intro o Q h; obtain ⟨v, h1, h2⟩ := h; exact ⟨v, h1, h2⟩)
    (by rintro ⟨x0, x1, x2, x3, x4, x5, x6⟩; kernel_rfl)
noncomputable def T_ref_DecodePacket_l2 (x0 : ByteArray) (x1 : Int) (x2 : Int) (x3 : Int) (x4 : Packet) (x5 : Packet) (x6 : Packet) : Tr ((ByteArray × Int × Int × Int × Packet × Packet × Packet) ⊕ (Packet × Packet × Packet)) :=
  (.ite (decide (x3 < x2))
    (.guard ((0 : Int) ≤ (IntKind.i64.wrap ((IntKind.i64.wrap (17 + (IntKind.i64.wrap (8 * x1)))) + x3)) ∧ (IntKind.i64.wrap ((IntKind.i64.wrap (17 + (IntKind.i64.wrap (8 * x1)))) + x3)) < ((x0.size : Nat) : Int))
    (.guard ((Sl.len (.ints x6.Done) + Sl.len (.ints [IntKind.i64.wrap (((x0.data.toList.getD (IntKind.i64.wrap ((IntKind.i64.wrap (17 + (IntKind.i64.wrap (8 * x1)))) + x3)).toNat 0).toNat : Nat) : Int)])) * 8 ≤ 140737488355328)
    (.leaf (.inl (x0, x1, x2, IntKind.i64.wrap (x3 + 1), x4, x5, { (x6 : Packet) with Done := x6.Done ++ [IntKind.i64.wrap (((x0.data.toList.getD (IntKind.i64.wrap ((IntKind.i64.wrap (17 + (IntKind.i64.wrap (8 * x1)))) + x3)).toNat 0).toNat : Nat) : Int)] })))))
    (.leaf (.inr (x4, x5, x6))))
noncomputable def sh_ref_DecodePacket_l2 (x0 : ByteArray) (x1 : Int) (x2 : Int) (x3 : Int) (x4 : Packet) (x5 : Packet) (x6 : Packet) : Option (Packet × Packet × Packet) := iter (fun s : ByteArray × Int × Int × Int × Packet × Packet × Packet => (T_ref_DecodePacket_l2 s.1 s.2.1 s.2.2.1 s.2.2.2.1 s.2.2.2.2.1 s.2.2.2.2.2.1 s.2.2.2.2.2.2).run) (x0, x1, x2, x3, x4, x5, x6)
noncomputable def A_ref_DecodePacket_l2 : Ann := ⟨[], [], [], live_ref_DecodePacket, []⟩
noncomputable def q_ref_DecodePacket_l2 : LQ (ByteArray × Int × Int × Int × Packet × Packet × Packet) := (LQ.map (LQ.seq (Par.q strP) (LQ.skip (LQ.const (.ptr 0 0)) (LQ.skip (LQ.const (.ptr 1 0)) (LQ.seq (Par.q intP) (LQ.seq (Par.q intP) (LQ.skip (LQ.const (.ptr 2 0)) (LQ.seq (Par.q intP) (LQ.seq (Par.q intP) (LQ.seq (Par.q intP) (LQ.seq (Par.q intP) (LQ.seq (Par.q intP) (LQ.skip (LQ.const (.own 3)) (LQ.skip (LQ.const (.own 4)) (LQ.seq (Par.q intP) (LQ.seq (Par.q intP) (LQ.seq (Par.q intP) (LQ.seq (Par.q intP) (LQ.skip (LQ.const (.own 5)) (LQ.skip (LQ.const (.own 6)) (LQ.seq (Par.q intP) (LQ.seq (Par.q intP) (LQ.seq (Par.q intP) (LQ.seq (Par.q intP) (LQ.skip (LQ.const (.own 7)) (LQ.skip (LQ.const (.own 8)) (LQ.seq (Par.q powersP) (LQ.seq (Par.q intsP) (LQ.seq (Par.q powersP) (LQ.seq (Par.q intsP) (LQ.seq (Par.q powersP) (Par.q intsP))))))))))))))))))))))))))))))) (fun x : ByteArray × Int × Int × Int × Int × Int × Int × Int × Int × Int × Int × Int × Int × Int × Int × Int × (List Power) × (List Int) × (List Power) × (List Int) × (List Power) × (List Int) => ((x.1, x.2.1, x.2.2.1, x.2.2.2.1, (⟨x.2.2.2.2.1, x.2.2.2.2.2.1, x.2.2.2.2.2.2.1, x.2.2.2.2.2.2.2.1, x.2.2.2.2.2.2.2.2.2.2.2.2.2.2.2.2.1, x.2.2.2.2.2.2.2.2.2.2.2.2.2.2.2.2.2.1⟩ : Packet), (⟨x.2.2.2.2.2.2.2.2.1, x.2.2.2.2.2.2.2.2.2.1, x.2.2.2.2.2.2.2.2.2.2.1, x.2.2.2.2.2.2.2.2.2.2.2.1, x.2.2.2.2.2.2.2.2.2.2.2.2.2.2.2.2.2.2.1, x.2.2.2.2.2.2.2.2.2.2.2.2.2.2.2.2.2.2.2.1⟩ : Packet), (⟨x.2.2.2.2.2.2.2.2.2.2.2.2.1, x.2.2.2.2.2.2.2.2.2.2.2.2.2.1, x.2.2.2.2.2.2.2.2.2.2.2.2.2.2.1, x.2.2.2.2.2.2.2.2.2.2.2.2.2.2.2.1, x.2.2.2.2.2.2.2.2.2.2.2.2.2.2.2.2.2.2.2.2.1, x.2.2.2.2.2.2.2.2.2.2.2.2.2.2.2.2.2.2.2.2.2⟩ : Packet)) : ByteArray × Int × Int × Int × Packet × Packet × Packet)) (fun y => (y.1, y.2.1, y.2.2.1, y.2.2.2.1, y.2.2.2.2.1.Kind, y.2.2.2.2.1.Id, y.2.2.2.2.1.V, y.2.2.2.2.1.N, y.2.2.2.2.2.1.Kind, y.2.2.2.2.2.1.Id, y.2.2.2.2.2.1.V, y.2.2.2.2.2.1.N, y.2.2.2.2.2.2.Kind, y.2.2.2.2.2.2.Id, y.2.2.2.2.2.2.V, y.2.2.2.2.2.2.N, y.2.2.2.2.1.Set, y.2.2.2.2.1.Done, y.2.2.2.2.2.1.Set, y.2.2.2.2.2.1.Done, y.2.2.2.2.2.2.Set, y.2.2.2.2.2.2.Done)) (fun _ => rfl))
noncomputable def p_ref_DecodePacket_l2 : Pat := ⟨[0, 2, 4, 5, 6, 7, 10], [.nilcell 2 4 52 (.powers []), .nilcell 2 5 3 (.ints []), .nilcell 4 4 52 (.powers []), .nilcell 4 5 3 (.ints []), .nilcell 7 4 52 (.powers []), .nilcell 7 5 3 (.ints [])]⟩
noncomputable def s_ref_DecodePacket_l2 : List BS := [.cells 56 6, .cells 56 6, .cells 56 6, .rows 52, .rows 3, .rows 52, .rows 3, .rows 52, .rows 3]
noncomputable def q_ref_DecodePacket_l2_e0 : LQ (Packet × Packet × Packet) := (LQ.map (LQ.skip (LQ.const (.ptr 0 0)) (LQ.skip (LQ.const (.ptr 1 0)) (LQ.skip (LQ.const (.ptr 2 0)) (LQ.seq (Par.q intP) (LQ.seq (Par.q intP) (LQ.seq (Par.q intP) (LQ.seq (Par.q intP) (LQ.skip (LQ.const (.own 3)) (LQ.skip (LQ.const (.own 4)) (LQ.seq (Par.q intP) (LQ.seq (Par.q intP) (LQ.seq (Par.q intP) (LQ.seq (Par.q intP) (LQ.skip (LQ.const (.own 5)) (LQ.skip (LQ.const (.own 6)) (LQ.seq (Par.q intP) (LQ.seq (Par.q intP) (LQ.seq (Par.q intP) (LQ.seq (Par.q intP) (LQ.skip (LQ.const (.own 7)) (LQ.skip (LQ.const (.own 8)) (LQ.seq (Par.q powersP) (LQ.seq (Par.q intsP) (LQ.seq (Par.q powersP) (LQ.seq (Par.q intsP) (LQ.seq (Par.q powersP) (Par.q intsP))))))))))))))))))))))))))) (fun x : Int × Int × Int × Int × Int × Int × Int × Int × Int × Int × Int × Int × (List Power) × (List Int) × (List Power) × (List Int) × (List Power) × (List Int) => (((⟨x.1, x.2.1, x.2.2.1, x.2.2.2.1, x.2.2.2.2.2.2.2.2.2.2.2.2.1, x.2.2.2.2.2.2.2.2.2.2.2.2.2.1⟩ : Packet), (⟨x.2.2.2.2.1, x.2.2.2.2.2.1, x.2.2.2.2.2.2.1, x.2.2.2.2.2.2.2.1, x.2.2.2.2.2.2.2.2.2.2.2.2.2.2.1, x.2.2.2.2.2.2.2.2.2.2.2.2.2.2.2.1⟩ : Packet), (⟨x.2.2.2.2.2.2.2.2.1, x.2.2.2.2.2.2.2.2.2.1, x.2.2.2.2.2.2.2.2.2.2.1, x.2.2.2.2.2.2.2.2.2.2.2.1, x.2.2.2.2.2.2.2.2.2.2.2.2.2.2.2.2.1, x.2.2.2.2.2.2.2.2.2.2.2.2.2.2.2.2.2⟩ : Packet)) : Packet × Packet × Packet)) (fun y => (y.1.Kind, y.1.Id, y.1.V, y.1.N, y.2.1.Kind, y.2.1.Id, y.2.1.V, y.2.1.N, y.2.2.Kind, y.2.2.Id, y.2.2.V, y.2.2.N, y.1.Set, y.1.Done, y.2.1.Set, y.2.1.Done, y.2.2.Set, y.2.2.Done)) (fun _ => rfl))
noncomputable def p_ref_DecodePacket_l2_e0 : Pat := ⟨[2, 4, 7], [.nilcell 2 4 52 (.powers []), .nilcell 2 5 3 (.ints []), .nilcell 4 4 52 (.powers []), .nilcell 4 5 3 (.ints []), .nilcell 7 4 52 (.powers []), .nilcell 7 5 3 (.ints [])]⟩
noncomputable def s_ref_DecodePacket_l2_e0 : List BS := [.cells 56 6, .cells 56 6, .cells 56 6, .rows 52, .rows 3, .rows 52, .rows 3, .rows 52, .rows 3]
noncomputable def L_ref_DecodePacket_l2 : St → Option LR := pieceL q_ref_DecodePacket_l2 105 0 p_ref_DecodePacket_l2 s_ref_DecodePacket_l2 (fun o => LR.one o (fun r => (.exit 2, stP q_ref_DecodePacket_l2_e0 105 13 p_ref_DecodePacket_l2_e0 s_ref_DecodePacket_l2_e0 r))) (fun a => iter (fun s : ByteArray × Int × Int × Int × Packet × Packet × Packet => (T_ref_DecodePacket_l2 s.1 s.2.1 s.2.2.1 s.2.2.2.1 s.2.2.2.2.1 s.2.2.2.2.2.1 s.2.2.2.2.2.2).run) a)
noncomputable def E_ref_DecodePacket_l2 : Exit → Option (End ((ByteArray × Int × Int × Int × Packet × Packet × Packet) ⊕ (Packet × Packet × Packet)))
  | .normal => some ⟨_, q_ref_DecodePacket_l2, p_ref_DecodePacket_l2, s_ref_DecodePacket_l2, fun b => .inl b⟩
  | .exit 2 => some ⟨_, q_ref_DecodePacket_l2_e0, p_ref_DecodePacket_l2_e0, s_ref_DecodePacket_l2_e0, fun b => .inr b⟩
  | _ => none
noncomputable def O_ref_DecodePacket_l2 : ((ByteArray × Int × Int × Int × Packet × Packet × Packet) ⊕ (Packet × Packet × Packet)) → Exit × St
  | .inl b => (.normal, stP q_ref_DecodePacket_l2 105 13 p_ref_DecodePacket_l2 s_ref_DecodePacket_l2 b)
  | .inr b => (.exit 2, stP q_ref_DecodePacket_l2_e0 105 13 p_ref_DecodePacket_l2_e0 s_ref_DecodePacket_l2_e0 b)
theorem lok_ref_DecodePacket_l2 : PieceOk (Y_ref_DecodePacket).env 0 (sub C_ref_DecodePacket [0, 1, 0, 1, 1, 1, 1, 1, 1, 1, 1, 1]) L_ref_DecodePacket_l2 :=
  loop_ok (Y := Y_ref_DecodePacket) (A := A_ref_DecodePacket_l2) hY_ref_DecodePacket Facts.mix (root := C_ref_DecodePacket) (L := 0) trivial (π := [0, 1, 0, 1, 1, 1, 1, 1, 1, 1, 1, 1]) (c := loopB (sub C_ref_DecodePacket [0, 1, 0, 1, 1, 1, 1, 1, 1, 1, 1, 1])) (by kernel_rfl) q_ref_DecodePacket_l2 105 13 p_ref_DecodePacket_l2 s_ref_DecodePacket_l2 E_ref_DecodePacket_l2 (fun s => T_ref_DecodePacket_l2 s.1 s.2.1 s.2.2.1 s.2.2.2.1 s.2.2.2.2.1 s.2.2.2.2.2.1 s.2.2.2.2.2.2) O_ref_DecodePacket_l2 (by intro e d h b; unfold E_ref_DecodePacket_l2 at h; split at h <;> first | (cases h; rfl) | cases h) (fun _ => rfl) (by intro r; exact (fun h => by cases h)) (fun o => LR.one o (fun r => (.exit 2, stP q_ref_DecodePacket_l2_e0 105 13 p_ref_DecodePacket_l2_e0 s_ref_DecodePacket_l2_e0 r))) (by intro o Q h; obtain ⟨v, h1, h2⟩ := h; exact ⟨v, h1, h2⟩)
    (by rintro ⟨x0, x1, x2, x3, x4, x5, x6⟩; kernel_rfl)
noncomputable def A_ref_DecodePacket : Ann := ⟨[([0, 1, 0, 1, 1, 1, 1, 1, 1, 1, 1], L_ref_DecodePacket_l1), ([0, 1, 0, 1, 1, 1, 1, 1, 1, 1, 1, 1], L_ref_DecodePacket_l2)], [], [], live_ref_DecodePacket, []⟩
noncomputable def T_ref_DecodePacket (a0 : ByteArray) : Tr (Packet × Int) :=
  (.ite (decide (((a0.size : Nat) : Int) < 17))
    (.leaf ((⟨0, 0, 0, 0, [], []⟩ : Packet), 1))
    (.guard ((0 : Int) ≤ 15 ∧ 15 < ((a0.size : Nat) : Int))
    (.ite (decide (((a0.size : Nat) : Int) < (IntKind.i64.wrap (17 + (IntKind.i64.wrap (8 * (IntKind.i64.wrap (((a0.data.toList.getD 15 0).toNat : Nat) : Int))))))))
      (.leaf ((⟨0, 0, 0, 0, [], []⟩ : Packet), 1))
      (.guard ((0 : Int) ≤ (IntKind.i64.wrap (16 + (IntKind.i64.wrap (8 * (IntKind.i64.wrap (((a0.data.toList.getD 15 0).toNat : Nat) : Int)))))) ∧ (IntKind.i64.wrap (16 + (IntKind.i64.wrap (8 * (IntKind.i64.wrap (((a0.data.toList.getD 15 0).toNat : Nat) : Int)))))) < ((a0.size : Nat) : Int))
      (.ite (((a0.size : Nat) : Int) != (IntKind.i64.wrap ((IntKind.i64.wrap (17 + (IntKind.i64.wrap (8 * (IntKind.i64.wrap (((a0.data.toList.getD 15 0).toNat : Nat) : Int)))))) + (IntKind.i64.wrap (((a0.data.toList.getD (IntKind.i64.wrap (16 + (IntKind.i64.wrap (8 * (IntKind.i64.wrap (((a0.data.toList.getD 15 0).toNat : Nat) : Int)))))).toNat 0).toNat : Nat) : Int)))))
        (.leaf ((⟨0, 0, 0, 0, [], []⟩ : Packet), 1))
        (.guard ((0 : Int) ≤ 0 ∧ 0 < ((a0.size : Nat) : Int))
        (.guard ((0 : Int) ≤ 1 ∧ 1 ≤ (7 : Int) ∧ 7 ≤ ((a0.size : Nat) : Int))
        (.guard ((sh_ref_numberOf (a0.extract 1 7)).isSome = true)
        (.guard ((0 : Int) ≤ 7 ∧ 7 < ((a0.size : Nat) : Int))
        (.guard ((0 : Int) ≤ 8 ∧ 8 ≤ (15 : Int) ∧ 15 ≤ ((a0.size : Nat) : Int))
        (.guard ((sh_ref_numberOf (a0.extract 8 15)).isSome = true)
        (.bind (sh_ref_DecodePacket_l1 a0 (IntKind.i64.wrap (((a0.data.toList.getD 15 0).toNat : Nat) : Int)) (IntKind.i64.wrap (((a0.data.toList.getD (IntKind.i64.wrap (16 + (IntKind.i64.wrap (8 * (IntKind.i64.wrap (((a0.data.toList.getD 15 0).toNat : Nat) : Int)))))).toNat 0).toNat : Nat) : Int)) 0 (⟨0, 0, 0, 0, [], []⟩ : Packet) (⟨0, 0, 0, 0, [], []⟩ : Packet) (⟨IntKind.i64.wrap (((a0.data.toList.getD 0 0).toNat : Nat) : Int), ((sh_ref_numberOf (a0.extract 1 7)).getD default), IntKind.i64.wrap (((a0.data.toList.getD 7 0).toNat : Nat) : Int), ((sh_ref_numberOf (a0.extract 8 15)).getD default), [], []⟩ : Packet)) fun v1 =>
        (.bind (sh_ref_DecodePacket_l2 v1.1 v1.2.1 v1.2.2.1 0 v1.2.2.2.1 v1.2.2.2.2.1 v1.2.2.2.2.2) fun v2 =>
        (.bind (sh_ref_GoodPacket v2.2.2) fun v4 =>
        (.ite (v4 != 0)
          (.leaf (v2.2.1, v4))
          (.leaf (v2.2.2, 0)))))))))))))))))
noncomputable def sh_ref_DecodePacket (a0 : ByteArray) : Option (Packet × Int) := (T_ref_DecodePacket a0).run
noncomputable def qa_ref_DecodePacket : LQ (ByteArray) := (Par.q strP)
noncomputable def qr_ref_DecodePacket : LQ (Packet × Int) := (LQ.seq (Par.q (Par.ofLP packetL)) (Par.q intP))
noncomputable def F_ref_DecodePacket : SpecT := specF 0 qa_ref_DecodePacket 1 [] (fun s => T_ref_DecodePacket s) default qr_ref_DecodePacket 2 []
theorem ok_ref_DecodePacket : SpecOk Try.prog 49 (F_ref_DecodePacket).spec :=
  specF_ok (Y := Y_ref_DecodePacket) (A := A_ref_DecodePacket) hY_ref_DecodePacket Facts.mix Try.func49 (c := C_ref_DecodePacket) (by kernel_rfl) (Lc := 0) ⟨lok_ref_DecodePacket_l1, lok_ref_DecodePacket_l2, trivial⟩ qa_ref_DecodePacket 1 13 [] (fun s => T_ref_DecodePacket s) default qr_ref_DecodePacket 2 [] [.pubB 2] (by decide) (by kernel_rfl) (by rfl) (by decide) (by decide) (by rfl)
    (by rintro a0; kernel_rfl)

noncomputable def C_ref_SamePowers : Code := Try.f35.body.getD .skip
noncomputable def live_ref_SamePowers : List (List Nat) := [[0, 1], [0, 1, 10], [4], [0, 1, 12, 13], [0, 1, 12, 13, 14], [0, 1, 5, 12, 13], [0, 1, 12, 13, 24], [4], [0, 1, 12, 13], [4]]
noncomputable def Y_ref_SamePowers : EnvT := ⟨Try.prog, lookT []⟩
theorem hY_ref_SamePowers : (Y_ref_SamePowers).Ok := lookT_ok trivial
noncomputable def T_ref_SamePowers_l1 (x0 : (List Power)) (x1 : (List Power)) (x2 : Int) (x3 : Int) : Tr (((List Power) × (List Power) × Int × Int) ⊕ ((Bool) ⊕ (Unit))) :=
  (.ite (decide (x3 < x2))
    (.guard ((0 : Int) ≤ x3 ∧ x3 < ((Sl.len (.powers x0) : Nat) : Int))
    (.guard ((0 : Int) ≤ x3 ∧ x3 < ((Sl.len (.powers x1) : Nat) : Int))
    (.ite (!((((x0.getD x3.toNat default).V) == ((x1.getD x3.toNat default).V)) && ((((x0.getD x3.toNat default).N) == ((x1.getD x3.toNat default).N)) && true)))
      (.leaf (.inr (.inl false)))
      (.leaf (.inl (x0, x1, x2, IntKind.i64.wrap (x3 + 1)))))))
    (.leaf (.inr (.inr ()))))
noncomputable def sh_ref_SamePowers_l1 (x0 : (List Power)) (x1 : (List Power)) (x2 : Int) (x3 : Int) : Option ((Bool) ⊕ (Unit)) := iter (fun s : (List Power) × (List Power) × Int × Int => (T_ref_SamePowers_l1 s.1 s.2.1 s.2.2.1 s.2.2.2).run) (x0, x1, x2, x3)
noncomputable def A_ref_SamePowers_l1 : Ann := ⟨[], [], [], live_ref_SamePowers, []⟩
noncomputable def q_ref_SamePowers_l1 : LQ ((List Power) × (List Power) × Int × Int) := (LQ.seq (Par.q powersP) (LQ.seq (Par.q powersP) (LQ.seq (Par.q intP) (Par.q intP))))
noncomputable def p_ref_SamePowers_l1 : Pat := ⟨[0, 1, 12, 13], [.pub 0, .nilsl 0 (.powers []), .pub 1, .nilsl 1 (.powers [])]⟩
noncomputable def s_ref_SamePowers_l1 : List BS := []
noncomputable def q_ref_SamePowers_l1_e0 : LQ (Bool) := (Par.q boolP)
noncomputable def p_ref_SamePowers_l1_e0 : Pat := ⟨[4], []⟩
noncomputable def s_ref_SamePowers_l1_e0 : List BS := []
noncomputable def q_ref_SamePowers_l1_e1 : LQ (Unit) := LQ.nil
noncomputable def p_ref_SamePowers_l1_e1 : Pat := ⟨[], []⟩
noncomputable def s_ref_SamePowers_l1_e1 : List BS := []
noncomputable def L_ref_SamePowers_l1 : St → Option LR := pieceL q_ref_SamePowers_l1 26 0 p_ref_SamePowers_l1 s_ref_SamePowers_l1 (fun o => LR.two o (fun r => (.ret, stP q_ref_SamePowers_l1_e0 26 2 p_ref_SamePowers_l1_e0 s_ref_SamePowers_l1_e0 r)) (fun r => (.exit 0, stP q_ref_SamePowers_l1_e1 26 2 p_ref_SamePowers_l1_e1 s_ref_SamePowers_l1_e1 r))) (fun a => iter (fun s : (List Power) × (List Power) × Int × Int => (T_ref_SamePowers_l1 s.1 s.2.1 s.2.2.1 s.2.2.2).run) a)
noncomputable def E_ref_SamePowers_l1 : Exit → Option (End (((List Power) × (List Power) × Int × Int) ⊕ ((Bool) ⊕ (Unit))))
  | .normal => some ⟨_, q_ref_SamePowers_l1, p_ref_SamePowers_l1, s_ref_SamePowers_l1, fun b => .inl b⟩
  | .ret => some ⟨_, q_ref_SamePowers_l1_e0, p_ref_SamePowers_l1_e0, s_ref_SamePowers_l1_e0, fun b => .inr (.inl b)⟩
  | .exit 0 => some ⟨_, q_ref_SamePowers_l1_e1, p_ref_SamePowers_l1_e1, s_ref_SamePowers_l1_e1, fun b => .inr (.inr b)⟩
  | _ => none
noncomputable def O_ref_SamePowers_l1 : (((List Power) × (List Power) × Int × Int) ⊕ ((Bool) ⊕ (Unit))) → Exit × St
  | .inl b => (.normal, stP q_ref_SamePowers_l1 26 2 p_ref_SamePowers_l1 s_ref_SamePowers_l1 b)
  | .inr (.inl b) => (.ret, stP q_ref_SamePowers_l1_e0 26 2 p_ref_SamePowers_l1_e0 s_ref_SamePowers_l1_e0 b)
  | .inr (.inr b) => (.exit 0, stP q_ref_SamePowers_l1_e1 26 2 p_ref_SamePowers_l1_e1 s_ref_SamePowers_l1_e1 b)
theorem lok_ref_SamePowers_l1 : PieceOk (Y_ref_SamePowers).env 0 (sub C_ref_SamePowers [0, 1, 0, 1, 1]) L_ref_SamePowers_l1 :=
  loop_ok (Y := Y_ref_SamePowers) (A := A_ref_SamePowers_l1) hY_ref_SamePowers Facts.mix (root := C_ref_SamePowers) (L := 0) trivial (π := [0, 1, 0, 1, 1]) (c := loopB (sub C_ref_SamePowers [0, 1, 0, 1, 1])) (by kernel_rfl) q_ref_SamePowers_l1 26 2 p_ref_SamePowers_l1 s_ref_SamePowers_l1 E_ref_SamePowers_l1 (fun s => T_ref_SamePowers_l1 s.1 s.2.1 s.2.2.1 s.2.2.2) O_ref_SamePowers_l1 (by intro e d h b; unfold E_ref_SamePowers_l1 at h; split at h <;> first | (cases h; rfl) | cases h) (fun _ => rfl) (by intro r; cases r <;> exact (fun h => by cases h)) (fun o => LR.two o (fun r => (.ret, stP q_ref_SamePowers_l1_e0 26 2 p_ref_SamePowers_l1_e0 s_ref_SamePowers_l1_e0 r)) (fun r => (.exit 0, stP q_ref_SamePowers_l1_e1 26 2 p_ref_SamePowers_l1_e1 s_ref_SamePowers_l1_e1 r))) (by intro o Q h; exact Or.elim h (fun ⟨v, h1, h2⟩ => ⟨_, h1, h2⟩) (fun ⟨v, h1, h2⟩ => ⟨_, h1, h2⟩))
    (by rintro ⟨x0, x1, x2, x3⟩; kernel_rfl)
noncomputable def A_ref_SamePowers : Ann := ⟨[([0, 1, 0, 1, 1], L_ref_SamePowers_l1)], [], [], live_ref_SamePowers, []⟩
noncomputable def T_ref_SamePowers (a0 : (List Power)) (a1 : (List Power)) : Tr (Bool) :=
  (.ite (((a0.length : Nat) : Int) != ((a1.length : Nat) : Int))
    (.leaf false)
    (.two (sh_ref_SamePowers_l1 a0 a1 ((a0.length : Nat) : Int) 0) (fun v1 =>
      (.leaf v1)) (fun v2 =>
      (.leaf true))))
noncomputable def sh_ref_SamePowers (a0 : (List Power)) (a1 : (List Power)) : Option (Bool) := (T_ref_SamePowers a0 a1).run
noncomputable def qa_ref_SamePowers : LQ ((List Power) × (List Power)) := (LQ.seq (Par.q powersP) (Par.q powersP))
noncomputable def qr_ref_SamePowers : LQ (Bool) := (Par.q boolP)
noncomputable def F_ref_SamePowers : SpecT := specF 0 qa_ref_SamePowers 2 [] (fun s => T_ref_SamePowers s.1 s.2) default qr_ref_SamePowers 1 []
theorem ok_ref_SamePowers : SpecOk Try.prog 35 (F_ref_SamePowers).spec :=
  specF_ok (Y := Y_ref_SamePowers) (A := A_ref_SamePowers) hY_ref_SamePowers Facts.mix Try.func35 (c := C_ref_SamePowers) (by kernel_rfl) (Lc := 0) ⟨lok_ref_SamePowers_l1, trivial⟩ qa_ref_SamePowers 2 2 [] (fun s => T_ref_SamePowers s.1 s.2) default qr_ref_SamePowers 1 [] [] (by decide) (by kernel_rfl) (by rfl) (by decide) (by decide) (by rfl)
    (by rintro ⟨a0, a1⟩; kernel_rfl)

noncomputable def C_ref_SamePacket : Code := Try.f37.body.getD .skip
noncomputable def live_ref_SamePacket : List (List Nat) := [[2, 3], [4]]
noncomputable def Y_ref_SamePacket : EnvT := ⟨Try.prog, lookT [(35, F_ref_SamePowers), (60, F_ref_SameNumbers)]⟩
theorem hY_ref_SamePacket : (Y_ref_SamePacket).Ok := lookT_ok ⟨ok_ref_SamePowers, ok_ref_SameNumbers, trivial⟩
noncomputable def A_ref_SamePacket : Ann := ⟨[], [], [], live_ref_SamePacket, []⟩
noncomputable def T_ref_SamePacket (a0 : Packet) (a1 : Packet) : Tr (Bool) :=
  (.guard ((((((a0.Kind == a1.Kind) && (a0.Id == a1.Id)) && (a0.V == a1.V)) && (a0.N == a1.N)) = true → ((sh_ref_SamePowers a0.Set a1.Set).isSome = true) ∧ True))
  (.guard (((((((a0.Kind == a1.Kind) && (a0.Id == a1.Id)) && (a0.V == a1.V)) && (a0.N == a1.N)) && ((sh_ref_SamePowers a0.Set a1.Set).getD default)) = true → ((sh_ref_SameNumbers a0.Done a1.Done).isSome = true) ∧ True))
  (.leaf ((((((a0.Kind == a1.Kind) && (a0.Id == a1.Id)) && (a0.V == a1.V)) && (a0.N == a1.N)) && ((sh_ref_SamePowers a0.Set a1.Set).getD default)) && ((sh_ref_SameNumbers a0.Done a1.Done).getD default)))))
noncomputable def sh_ref_SamePacket (a0 : Packet) (a1 : Packet) : Option (Bool) := (T_ref_SamePacket a0 a1).run
noncomputable def qa_ref_SamePacket : LQ (Packet × Packet) := (LQ.seq (Par.q (Par.ofLP packetL)) (Par.q (Par.ofLP packetL)))
noncomputable def qr_ref_SamePacket : LQ (Bool) := (Par.q boolP)
noncomputable def F_ref_SamePacket : SpecT := specF 0 qa_ref_SamePacket 2 [] (fun s => T_ref_SamePacket s.1 s.2) default qr_ref_SamePacket 1 []
theorem ok_ref_SamePacket : SpecOk Try.prog 37 (F_ref_SamePacket).spec :=
  specF_ok (Y := Y_ref_SamePacket) (A := A_ref_SamePacket) hY_ref_SamePacket Facts.mix Try.func37 (c := C_ref_SamePacket) (by kernel_rfl) (Lc := 0) trivial qa_ref_SamePacket 2 4 [] (fun s => T_ref_SamePacket s.1 s.2) default qr_ref_SamePacket 1 [] [] (by decide) (by kernel_rfl) (by rfl) (by decide) (by decide) (by rfl)
    (by rintro ⟨a0, a1⟩; kernel_rfl)

noncomputable def C_ref_CopyPacket : Code := Try.f40.body.getD .skip
noncomputable def live_ref_CopyPacket : List (List Nat) := [[1, 2], [1, 2], [2]]
noncomputable def Y_ref_CopyPacket : EnvT := ⟨Try.prog, lookT []⟩
theorem hY_ref_CopyPacket : (Y_ref_CopyPacket).Ok := lookT_ok trivial
noncomputable def A_ref_CopyPacket : Ann := ⟨[], [], [], live_ref_CopyPacket, []⟩
noncomputable def T_ref_CopyPacket (a0 : Packet) : Tr (Packet) :=
  (.guard ((0 + Sl.len (.powers a0.Set)) * 16 ≤ 140737488355328)
  (.guard ((0 + Sl.len (.ints a0.Done)) * 8 ≤ 140737488355328)
  (.leaf a0)))
noncomputable def sh_ref_CopyPacket (a0 : Packet) : Option (Packet) := (T_ref_CopyPacket a0).run
noncomputable def qa_ref_CopyPacket : LQ (Packet) := (Par.q (Par.ofLP packetL))
noncomputable def qr_ref_CopyPacket : LQ (Packet) := (Par.q (Par.ofLP packetL))
noncomputable def F_ref_CopyPacket : SpecT := specF 0 qa_ref_CopyPacket 1 [] (fun s => T_ref_CopyPacket s) default qr_ref_CopyPacket 1 []
theorem ok_ref_CopyPacket : SpecOk Try.prog 40 (F_ref_CopyPacket).spec :=
  specF_ok (Y := Y_ref_CopyPacket) (A := A_ref_CopyPacket) hY_ref_CopyPacket Facts.mix Try.func40 (c := C_ref_CopyPacket) (by kernel_rfl) (Lc := 0) trivial qa_ref_CopyPacket 1 6 [] (fun s => T_ref_CopyPacket s) default qr_ref_CopyPacket 1 [] [.pubB 2] (by decide) (by kernel_rfl) (by rfl) (by decide) (by decide) (by rfl)
    (by rintro a0; kernel_rfl)

end Go.Proofs.Ythhdljniheaeoaa.Ab
