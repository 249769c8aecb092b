/-
  The functions, each by its tree.
-/
import Derived.Test.YthhdljniheaeoaaFacts
import Derived.Test.YthhdljniheaeoaaAbStructs
import Derived.Test.YthhdljniheaeoaaAbFun
import Derived.Test.YthhdljniheaeoaaFLine
import Derived.Test.YthhdljniheaeoaaFCodec
import Derived.Test.YthhdljniheaeoaaFStake
import Derived.Test.YthhdljniheaeoaaFCons
namespace Go.Proofs.Ythhdljniheaeoaa.Ab
open Go Go.RowKit
set_option maxRecDepth 100000
set_option linter.unusedVariables false
set_option linter.unusedSimpArgs false

noncomputable def C_law_ConsumerBegins : Code := Try.f3.body.getD .skip
noncomputable def live_law_ConsumerBegins : List (List Nat) := [[0, 1, 2], [6]]
noncomputable def Y_law_ConsumerBegins : EnvT := ⟨Try.prog, lookT [(12, F_law_powers), (11, F_consumer_Begin), (13, F_ref_BeginConsumer), (10, F_ref_SameConsumer), (14, F_law_consumes)]⟩
theorem hY_law_ConsumerBegins : (Y_law_ConsumerBegins).Ok := lookT_ok ⟨ok_law_powers, ok_consumer_Begin, ok_ref_BeginConsumer, ok_ref_SameConsumer, ok_law_consumes, trivial⟩
noncomputable def A_law_ConsumerBegins : Ann := ⟨[], [], [], live_law_ConsumerBegins, []⟩
noncomputable def T_law_ConsumerBegins (a0 : (List Power)) (a1 : Int) (a2 : Int) : Tr (Bool) :=
  (.bind (sh_law_powers a0) fun v1 =>
  (.bind (sh_consumer_Begin v1 a1 a2) fun v2 =>
  (.bind (sh_ref_BeginConsumer a0 a1 a2) fun v3 =>
  (.bind (sh_ref_SameConsumer v2 v3) fun v4 =>
  (.guard ((v4 = true → ((sh_law_consumes).isSome = true) ∧ True))
  (.leaf (v4 && ((sh_law_consumes).getD default))))))))
noncomputable def sh_law_ConsumerBegins (a0 : (List Power)) (a1 : Int) (a2 : Int) : Option (Bool) := (T_law_ConsumerBegins a0 a1 a2).run
noncomputable def qa_law_ConsumerBegins : LQ ((List Power) × Int × Int) := (LQ.seq (Par.q powersP) (LQ.seq (Par.q intP) (Par.q intP)))
noncomputable def qr_law_ConsumerBegins : LQ (Bool) := (Par.q boolP)
noncomputable def F_law_ConsumerBegins : SpecT := specF 0 qa_law_ConsumerBegins 3 [] (fun s => T_law_ConsumerBegins s.1 s.2.1 s.2.2) default qr_law_ConsumerBegins 1 []
theorem ok_law_ConsumerBegins : SpecOk Try.prog 3 (F_law_ConsumerBegins).spec :=
  specF_ok (Y := Y_law_ConsumerBegins) (A := A_law_ConsumerBegins) hY_law_ConsumerBegins Facts.mix Try.func3 (c := C_law_ConsumerBegins) (by kernel_rfl) (Lc := 0) trivial qa_law_ConsumerBegins 3 2 [] (fun s => T_law_ConsumerBegins s.1 s.2.1 s.2.2) default qr_law_ConsumerBegins 1 [] [] (by decide) (by kernel_rfl) (by rfl) (by decide) (by decide) (by rfl)
    (by rintro ⟨a0, a1, a2⟩; kernel_rfl)

noncomputable def C_law_ConsumerEnds : Code := Try.f4.body.getD .skip
noncomputable def live_law_ConsumerEnds : List (List Nat) := [[1, 2], [1, 2, 5], [1, 2, 5, 6, 7], [2, 5, 6, 7, 8, 9], [4]]
noncomputable def Y_law_ConsumerEnds : EnvT := ⟨Try.prog, lookT [(15, F_ref_CopyConsumer), (16, F_consumer_End), (17, F_ref_EndConsumer), (10, F_ref_SameConsumer), (18, F_consumer_Remove), (19, F_ref_RemoveConsumer), (14, F_law_consumes)]⟩
theorem hY_law_ConsumerEnds : (Y_law_ConsumerEnds).Ok := lookT_ok ⟨ok_ref_CopyConsumer, ok_consumer_End, ok_ref_EndConsumer, ok_ref_SameConsumer, ok_consumer_Remove, ok_ref_RemoveConsumer, ok_law_consumes, trivial⟩
noncomputable def A_law_ConsumerEnds : Ann := ⟨[], [], [], live_law_ConsumerEnds, []⟩
noncomputable def T_law_ConsumerEnds (a0 : Consumer) (a1 : Int) : Tr (Bool) :=
  (.bind (sh_ref_CopyConsumer a0) fun v1 =>
  (.bind (sh_consumer_End v1 a1) fun v2 =>
  (.bind (sh_ref_EndConsumer a0 a1) fun v3 =>
  (.guard (((v2.2 == v3.2) = true → ((sh_ref_SameConsumer v2.1 v3.1).isSome = true) ∧ True))
  (.guard ((((v2.2 == v3.2) && ((sh_ref_SameConsumer v2.1 v3.1).getD default)) = true → ((sh_ref_SameConsumer v1 a0).isSome = true) ∧ True))
  (.guard (((((v2.2 == v3.2) && ((sh_ref_SameConsumer v2.1 v3.1).getD default)) && ((sh_ref_SameConsumer v1 a0).getD default)) = true → ((sh_ref_CopyConsumer a0).isSome = true) ∧ True))
  (.guard (((((v2.2 == v3.2) && ((sh_ref_SameConsumer v2.1 v3.1).getD default)) && ((sh_ref_SameConsumer v1 a0).getD default)) = true → ((sh_consumer_Remove ((sh_ref_CopyConsumer a0).getD default)).isSome = true) ∧ True))
  (.guard (((((v2.2 == v3.2) && ((sh_ref_SameConsumer v2.1 v3.1).getD default)) && ((sh_ref_SameConsumer v1 a0).getD default)) = true → ((sh_ref_RemoveConsumer a0).isSome = true) ∧ True))
  (.guard (((((v2.2 == v3.2) && ((sh_ref_SameConsumer v2.1 v3.1).getD default)) && ((sh_ref_SameConsumer v1 a0).getD default)) = true → ((sh_ref_SameConsumer ((sh_consumer_Remove ((sh_ref_CopyConsumer a0).getD default)).getD default) ((sh_ref_RemoveConsumer a0).getD default)).isSome = true) ∧ True))
  (.guard ((((((v2.2 == v3.2) && ((sh_ref_SameConsumer v2.1 v3.1).getD default)) && ((sh_ref_SameConsumer v1 a0).getD default)) && ((sh_ref_SameConsumer ((sh_consumer_Remove ((sh_ref_CopyConsumer a0).getD default)).getD default) ((sh_ref_RemoveConsumer a0).getD default)).getD default)) = true → ((sh_law_consumes).isSome = true) ∧ True))
  (.leaf (((((v2.2 == v3.2) && ((sh_ref_SameConsumer v2.1 v3.1).getD default)) && ((sh_ref_SameConsumer v1 a0).getD default)) && ((sh_ref_SameConsumer ((sh_consumer_Remove ((sh_ref_CopyConsumer a0).getD default)).getD default) ((sh_ref_RemoveConsumer a0).getD default)).getD default)) && ((sh_law_consumes).getD default)))))))))))))
noncomputable def sh_law_ConsumerEnds (a0 : Consumer) (a1 : Int) : Option (Bool) := (T_law_ConsumerEnds a0 a1).run
noncomputable def qa_law_ConsumerEnds : LQ (Consumer × Int) := (LQ.seq (Par.q (Par.ofLP consumerL)) (Par.q intP))
noncomputable def qr_law_ConsumerEnds : LQ (Bool) := (Par.q boolP)
noncomputable def F_law_ConsumerEnds : SpecT := specF 0 qa_law_ConsumerEnds 2 [] (fun s => T_law_ConsumerEnds s.1 s.2) default qr_law_ConsumerEnds 1 []
theorem ok_law_ConsumerEnds : SpecOk Try.prog 4 (F_law_ConsumerEnds).spec :=
  specF_ok (Y := Y_law_ConsumerEnds) (A := A_law_ConsumerEnds) hY_law_ConsumerEnds Facts.mix Try.func4 (c := C_law_ConsumerEnds) (by kernel_rfl) (Lc := 0) trivial qa_law_ConsumerEnds 2 6 [] (fun s => T_law_ConsumerEnds s.1 s.2) default qr_law_ConsumerEnds 1 [] [] (by decide) (by kernel_rfl) (by rfl) (by decide) (by decide) (by rfl)
    (by rintro ⟨a0, a1⟩; kernel_rfl)

noncomputable def C_law_ConsumerTells : Code := Try.f5.body.getD .skip
noncomputable def live_law_ConsumerTells : List (List Nat) := [[1, 2, 3, 4], [1, 2, 3, 4, 9, 10], [1, 2, 3, 4, 9, 10, 11, 12], [1, 2, 3, 4, 9, 11, 36], [8], [1, 2, 3, 4, 9, 10, 11], [9, 10, 11, 12], [8]]
noncomputable def Y_law_ConsumerTells : EnvT := ⟨Try.prog, lookT [(15, F_ref_CopyConsumer), (20, F_consumer_Down), (21, F_ref_DownAt), (10, F_ref_SameConsumer), (22, F_consumer_Double), (23, F_ref_DoubleAt), (14, F_law_consumes)]⟩
theorem hY_law_ConsumerTells : (Y_law_ConsumerTells).Ok := lookT_ok ⟨ok_ref_CopyConsumer, ok_consumer_Down, ok_ref_DownAt, ok_ref_SameConsumer, ok_consumer_Double, ok_ref_DoubleAt, ok_law_consumes, trivial⟩
noncomputable def A_law_ConsumerTells : Ann := ⟨[], [], [], live_law_ConsumerTells, []⟩
noncomputable def T_law_ConsumerTells (a0 : Consumer) (a1 : Int) (a2 : Int) (a3 : Int) : Tr (Bool) :=
  (.bind (sh_ref_CopyConsumer a0) fun v1 =>
  (.bind (sh_consumer_Down v1 a1 a3) fun v2 =>
  (.bind (sh_ref_DownAt a0 a1 a3) fun v3 =>
  (.guard (((v2.2 != v3.2) = false → ((sh_ref_SameConsumer v2.1 v3.1).isSome = true) ∧ True))
  (.ite ((v2.2 != v3.2) || (!((sh_ref_SameConsumer v2.1 v3.1).getD default)))
    (.leaf false)
    (.bind (sh_ref_CopyConsumer a0) fun v4 =>
    (.bind (sh_consumer_Double v4 a1 a2 a3) fun v5 =>
    (.bind (sh_ref_DoubleAt a0 a1 a2 a3) fun v6 =>
    (.guard (((v5.2 == v6.2) = true → ((sh_ref_SameConsumer v5.1 v6.1).isSome = true) ∧ True))
    (.guard ((((v5.2 == v6.2) && ((sh_ref_SameConsumer v5.1 v6.1).getD default)) = true → ((sh_law_consumes).isSome = true) ∧ True))
    (.leaf (((v5.2 == v6.2) && ((sh_ref_SameConsumer v5.1 v6.1).getD default)) && ((sh_law_consumes).getD default)))))))))))))
noncomputable def sh_law_ConsumerTells (a0 : Consumer) (a1 : Int) (a2 : Int) (a3 : Int) : Option (Bool) := (T_law_ConsumerTells a0 a1 a2 a3).run
noncomputable def qa_law_ConsumerTells : LQ (Consumer × Int × Int × Int) := (LQ.seq (Par.q (Par.ofLP consumerL)) (LQ.seq (Par.q intP) (LQ.seq (Par.q intP) (Par.q intP))))
noncomputable def qr_law_ConsumerTells : LQ (Bool) := (Par.q boolP)
noncomputable def F_law_ConsumerTells : SpecT := specF 0 qa_law_ConsumerTells 4 [] (fun s => T_law_ConsumerTells s.1 s.2.1 s.2.2.1 s.2.2.2) default qr_law_ConsumerTells 1 []
theorem ok_law_ConsumerTells : SpecOk Try.prog 5 (F_law_ConsumerTells).spec :=
  specF_ok (Y := Y_law_ConsumerTells) (A := A_law_ConsumerTells) hY_law_ConsumerTells Facts.mix Try.func5 (c := C_law_ConsumerTells) (by kernel_rfl) (Lc := 0) trivial qa_law_ConsumerTells 4 5 [] (fun s => T_law_ConsumerTells s.1 s.2.1 s.2.2.1 s.2.2.2) default qr_law_ConsumerTells 1 [] [] (by decide) (by kernel_rfl) (by rfl) (by decide) (by decide) (by rfl)
    (by rintro ⟨a0, a1, a2, a3⟩; kernel_rfl)

noncomputable def C_law_ConsumerHears : Code := Try.f6.body.getD .skip
noncomputable def live_law_ConsumerHears : List (List Nat) := [[1, 2], [1, 2, 5, 6], [2, 5, 6, 7, 8], [4]]
noncomputable def Y_law_ConsumerHears : EnvT := ⟨Try.prog, lookT [(15, F_ref_CopyConsumer), (24, F_consumer_Hear), (25, F_ref_ConsumerHear), (10, F_ref_SameConsumer), (26, F_consumer_Good), (27, F_ref_GoodConsumer), (14, F_law_consumes)]⟩
theorem hY_law_ConsumerHears : (Y_law_ConsumerHears).Ok := lookT_ok ⟨ok_ref_CopyConsumer, ok_consumer_Hear, ok_ref_ConsumerHear, ok_ref_SameConsumer, ok_consumer_Good, ok_ref_GoodConsumer, ok_law_consumes, trivial⟩
noncomputable def A_law_ConsumerHears : Ann := ⟨[], [], [], live_law_ConsumerHears, []⟩
noncomputable def T_law_ConsumerHears (a0 : Consumer) (a1 : ByteArray) : Tr (Bool) :=
  (.bind (sh_ref_CopyConsumer a0) fun v1 =>
  (.bind (sh_consumer_Hear v1 a1) fun v2 =>
  (.bind (sh_ref_ConsumerHear a0 a1) fun v3 =>
  (.guard (((v2.2 == v3.2) = true → ((sh_ref_SameConsumer v2.1 v3.1).isSome = true) ∧ True))
  (.guard ((((v2.2 == v3.2) && ((sh_ref_SameConsumer v2.1 v3.1).getD default)) = true → ((sh_ref_CopyConsumer a0).isSome = true) ∧ True))
  (.guard ((((v2.2 == v3.2) && ((sh_ref_SameConsumer v2.1 v3.1).getD default)) = true → ((sh_consumer_Good ((sh_ref_CopyConsumer a0).getD default)).isSome = true) ∧ True))
  (.guard ((((v2.2 == v3.2) && ((sh_ref_SameConsumer v2.1 v3.1).getD default)) = true → ((sh_ref_GoodConsumer a0).isSome = true) ∧ True))
  (.guard (((((v2.2 == v3.2) && ((sh_ref_SameConsumer v2.1 v3.1).getD default)) && (((sh_consumer_Good ((sh_ref_CopyConsumer a0).getD default)).getD default) == ((sh_ref_GoodConsumer a0).getD default))) = true → ((sh_law_consumes).isSome = true) ∧ True))
  (.leaf ((((v2.2 == v3.2) && ((sh_ref_SameConsumer v2.1 v3.1).getD default)) && (((sh_consumer_Good ((sh_ref_CopyConsumer a0).getD default)).getD default) == ((sh_ref_GoodConsumer a0).getD default))) && ((sh_law_consumes).getD default)))))))))))
noncomputable def sh_law_ConsumerHears (a0 : Consumer) (a1 : ByteArray) : Option (Bool) := (T_law_ConsumerHears a0 a1).run
noncomputable def qa_law_ConsumerHears : LQ (Consumer × ByteArray) := (LQ.seq (Par.q (Par.ofLP consumerL)) (Par.q strP))
noncomputable def qr_law_ConsumerHears : LQ (Bool) := (Par.q boolP)
noncomputable def F_law_ConsumerHears : SpecT := specF 0 qa_law_ConsumerHears 2 [] (fun s => T_law_ConsumerHears s.1 s.2) default qr_law_ConsumerHears 1 []
theorem ok_law_ConsumerHears : SpecOk Try.prog 6 (F_law_ConsumerHears).spec :=
  specF_ok (Y := Y_law_ConsumerHears) (A := A_law_ConsumerHears) hY_law_ConsumerHears Facts.mix Try.func6 (c := C_law_ConsumerHears) (by kernel_rfl) (Lc := 0) trivial qa_law_ConsumerHears 2 5 [] (fun s => T_law_ConsumerHears s.1 s.2) default qr_law_ConsumerHears 1 [] [] (by decide) (by kernel_rfl) (by rfl) (by decide) (by decide) (by rfl)
    (by rintro ⟨a0, a1⟩; kernel_rfl)

noncomputable def C_keep_ConsumerRipens : Code := Try.f7.body.getD .skip
noncomputable def live_keep_ConsumerRipens : List (List Nat) := [[0, 1, 2], [0, 1, 2, 22], [6], [0, 1, 2], [0, 1, 2, 7], [0, 1, 2, 7, 8], [0, 1, 2, 7, 8, 9], [0, 1, 2, 7, 8, 9, 37], [0, 1, 2, 7, 8, 9], [0, 1, 2, 7, 8, 9, 10], [0, 1, 2, 7, 8, 9, 12, 13], [0, 1, 2, 7, 8, 9, 12, 54], [6], [0, 1, 2, 7, 8, 9], [1, 2, 7, 8, 14], [1, 2, 7, 8, 14, 15, 16], [1, 2, 8, 15, 91], [6], [1, 2, 8, 15, 93], [6], [1, 2, 8, 15, 108, 109, 110], [1, 2, 8, 15, 108, 109, 110, 111], [1, 2, 8, 15, 17, 18, 108, 109, 110], [1, 2, 8, 15, 17, 19, 20, 108, 109, 110], [1, 2, 8, 15, 108, 109, 110, 146], [6], [1, 2, 8, 15, 108, 109, 110], [6]]
noncomputable def Y_keep_ConsumerRipens : EnvT := ⟨Try.prog, lookT [(28, F_keep_consumes), (29, F_keep_pick), (11, F_consumer_Begin), (30, F_codec_Encode), (24, F_consumer_Hear), (16, F_consumer_End), (31, F_codec_Decode)]⟩
theorem hY_keep_ConsumerRipens : (Y_keep_ConsumerRipens).Ok := lookT_ok ⟨ok_keep_consumes, ok_keep_pick, ok_consumer_Begin, ok_codec_Encode, ok_consumer_Hear, ok_consumer_End, ok_codec_Decode, trivial⟩
noncomputable def T_keep_ConsumerRipens_l1 (x0 : (List Int)) (x1 : Int) (x2 : Int) (x3 : Int) (x4 : Int) (x5 : Consumer) : Tr (((List Int) × Int × Int × Int × Int × Consumer) ⊕ ((Bool) ⊕ (Int × Int × Int × Consumer))) :=
  (.ite ((decide (x4 < ((x0.length : Nat) : Int))) && (decide (x4 < 20)))
    (.bind (sh_codec_Encode (⟨1, IntKind.i64.wrap (2 + x4), 0, 0, [], []⟩ : Packet)) fun v6 =>
    (.bind (sh_consumer_Hear x5 v6.1) fun v7 =>
    (.ite (v7.2 != 0)
      (.leaf (.inr (.inl false)))
      (.leaf (.inl (x0, x1, x2, IntKind.i64.wrap (x3 + 1), IntKind.i64.wrap (x4 + 1), v7.1))))))
    (.leaf (.inr (.inr (x1, x2, x3, x5)))))
noncomputable def sh_keep_ConsumerRipens_l1 (x0 : (List Int)) (x1 : Int) (x2 : Int) (x3 : Int) (x4 : Int) (x5 : Consumer) : Option ((Bool) ⊕ (Int × Int × Int × Consumer)) := iter (fun s : (List Int) × Int × Int × Int × Int × Consumer => (T_keep_ConsumerRipens_l1 s.1 s.2.1 s.2.2.1 s.2.2.2.1 s.2.2.2.2.1 s.2.2.2.2.2).run) (x0, x1, x2, x3, x4, x5)
noncomputable def A_keep_ConsumerRipens_l1 : Ann := ⟨[], [], [], live_keep_ConsumerRipens, []⟩
noncomputable def q_keep_ConsumerRipens_l1 : LQ ((List Int) × Int × Int × Int × Int × Consumer) := (LQ.seq (Par.q intsP) (LQ.seq (Par.q intP) (LQ.seq (Par.q intP) (LQ.skip (LQ.const (.ptr 0 0)) (LQ.seq (Par.q intP) (LQ.seq (Par.q intP) (LP.q consumerL)))))))
noncomputable def p_keep_ConsumerRipens_l1 : Pat := ⟨[0, 1, 2, 7, 8, 9], [.pub 0, .nilsl 0 (.ints [])]⟩
noncomputable def s_keep_ConsumerRipens_l1 : List BS := [.cells 34 22]
noncomputable def q_keep_ConsumerRipens_l1_e0 : LQ (Bool) := (Par.q boolP)
noncomputable def p_keep_ConsumerRipens_l1_e0 : Pat := ⟨[6], []⟩
noncomputable def s_keep_ConsumerRipens_l1_e0 : List BS := []
noncomputable def q_keep_ConsumerRipens_l1_e1 : LQ (Int × Int × Int × Consumer) := (LQ.seq (Par.q intP) (LQ.seq (Par.q intP) (LQ.skip (LQ.const (.ptr 0 0)) (LQ.seq (Par.q intP) (LP.q consumerL)))))
noncomputable def p_keep_ConsumerRipens_l1_e1 : Pat := ⟨[1, 2, 7, 8], []⟩
noncomputable def s_keep_ConsumerRipens_l1_e1 : List BS := [.cells 34 22]
noncomputable def L_keep_ConsumerRipens_l1 : St → Option LR := pieceL q_keep_ConsumerRipens_l1 160 0 p_keep_ConsumerRipens_l1 s_keep_ConsumerRipens_l1 (fun o => LR.two o (fun r => (.ret, stP q_keep_ConsumerRipens_l1_e0 160 4 p_keep_ConsumerRipens_l1_e0 s_keep_ConsumerRipens_l1_e0 r)) (fun r => (.exit 0, stP q_keep_ConsumerRipens_l1_e1 160 4 p_keep_ConsumerRipens_l1_e1 s_keep_ConsumerRipens_l1_e1 r))) (fun a => iter (fun s : (List Int) × Int × Int × Int × Int × Consumer => (T_keep_ConsumerRipens_l1 s.1 s.2.1 s.2.2.1 s.2.2.2.1 s.2.2.2.2.1 s.2.2.2.2.2).run) a)
noncomputable def E_keep_ConsumerRipens_l1 : Exit → Option (End (((List Int) × Int × Int × Int × Int × Consumer) ⊕ ((Bool) ⊕ (Int × Int × Int × Consumer))))
  | .normal => some ⟨_, q_keep_ConsumerRipens_l1, p_keep_ConsumerRipens_l1, s_keep_ConsumerRipens_l1, fun b => .inl b⟩
  | .ret => some ⟨_, q_keep_ConsumerRipens_l1_e0, p_keep_ConsumerRipens_l1_e0, s_keep_ConsumerRipens_l1_e0, fun b => .inr (.inl b)⟩
  | .exit 0 => some ⟨_, q_keep_ConsumerRipens_l1_e1, p_keep_ConsumerRipens_l1_e1, s_keep_ConsumerRipens_l1_e1, fun b => .inr (.inr b)⟩
  | _ => none
noncomputable def O_keep_ConsumerRipens_l1 : (((List Int) × Int × Int × Int × Int × Consumer) ⊕ ((Bool) ⊕ (Int × Int × Int × Consumer))) → Exit × St
  | .inl b => (.normal, stP q_keep_ConsumerRipens_l1 160 4 p_keep_ConsumerRipens_l1 s_keep_ConsumerRipens_l1 b)
  | .inr (.inl b) => (.ret, stP q_keep_ConsumerRipens_l1_e0 160 4 p_keep_ConsumerRipens_l1_e0 s_keep_ConsumerRipens_l1_e0 b)
  | .inr (.inr b) => (.exit 0, stP q_keep_ConsumerRipens_l1_e1 160 4 p_keep_ConsumerRipens_l1_e1 s_keep_ConsumerRipens_l1_e1 b)
theorem lok_keep_ConsumerRipens_l1 : PieceOk (Y_keep_ConsumerRipens).env 0 (sub C_keep_ConsumerRipens [0, 1, 0, 1, 1, 1, 1, 1]) L_keep_ConsumerRipens_l1 :=
  loop_ok (Y := Y_keep_ConsumerRipens) (A := A_keep_ConsumerRipens_l1) hY_keep_ConsumerRipens Facts.mix (root := C_keep_ConsumerRipens) (L := 0) trivial (π := [0, 1, 0, 1, 1, 1, 1, 1]) (c := loopB (sub C_keep_ConsumerRipens [0, 1, 0, 1, 1, 1, 1, 1])) (by kernel_rfl) q_keep_ConsumerRipens_l1 160 4 p_keep_ConsumerRipens_l1 s_keep_ConsumerRipens_l1 E_keep_ConsumerRipens_l1 (fun s => T_keep_ConsumerRipens_l1 s.1 s.2.1 s.2.2.1 s.2.2.2.1 s.2.2.2.2.1 s.2.2.2.2.2) O_keep_ConsumerRipens_l1 (by intro e d h b; unfold E_keep_ConsumerRipens_l1 at h; split at h <;> first | (cases h; rfl) | cases h) (fun _ => rfl) (by intro r; cases r <;> exact (fun h => by cases h)) (fun o => LR.two o (fun r => (.ret, stP q_keep_ConsumerRipens_l1_e0 160 4 p_keep_ConsumerRipens_l1_e0 s_keep_ConsumerRipens_l1_e0 r)) (fun r => (.exit 0, stP q_keep_ConsumerRipens_l1_e1 160 4 p_keep_ConsumerRipens_l1_e1 s_keep_ConsumerRipens_l1_e1 r))) (by intro o Q h; exact Or.elim h (fun ⟨v, h1, h2⟩ => ⟨_, h1, h2⟩) (fun ⟨v, h1, h2⟩ => ⟨_, h1, h2⟩))
    (by rintro ⟨x0, x1, x2, x3, x4, x5⟩; kernel_rfl)
noncomputable def T_keep_ConsumerRipens_l2 (x0 : Int) (x1 : Int) (x2 : Int) (x3 : (List ByteArray)) (x4 : Int) (x5 : Int) (x6 : Consumer) : Tr ((Int × Int × Int × (List ByteArray) × Int × Int × Consumer) ⊕ ((Bool) ⊕ (Int × Consumer))) :=
  (.ite (decide (x5 < x4))
    (.guard ((0 : Int) ≤ x5 ∧ x5 < ((Sl.len (.strs x3) : Nat) : Int))
    (.bind (sh_codec_Decode (x3.getD x5.toNat .empty)) fun v12 =>
    (.guard (((((v12.2 != 0) || (v12.1.Kind != 2)) || (v12.1.Id != (IntKind.i64.wrap (2 + x5)))) = false → ((0 : Int) ≤ x5 ∧ x5 < ((Sl.len (.ints x6.Out.Due) : Nat) : Int)) ∧ True))
    (.ite ((((v12.2 != 0) || (v12.1.Kind != 2)) || (v12.1.Id != (IntKind.i64.wrap (2 + x5)))) || ((IntKind.i64.wrap ((IntKind.i64.wrap ((x6.Out.Due.getD x5.toNat 0) - x0)) - x1)) != 40))
      (.leaf (.inr (.inl false)))
      (.leaf (.inl (x0, x1, x2, x3, x4, IntKind.i64.wrap (x5 + 1), x6)))))))
    (.leaf (.inr (.inr (x2, x6)))))
noncomputable def sh_keep_ConsumerRipens_l2 (x0 : Int) (x1 : Int) (x2 : Int) (x3 : (List ByteArray)) (x4 : Int) (x5 : Int) (x6 : Consumer) : Option ((Bool) ⊕ (Int × Consumer)) := iter (fun s : Int × Int × Int × (List ByteArray) × Int × Int × Consumer => (T_keep_ConsumerRipens_l2 s.1 s.2.1 s.2.2.1 s.2.2.2.1 s.2.2.2.2.1 s.2.2.2.2.2.1 s.2.2.2.2.2.2).run) (x0, x1, x2, x3, x4, x5, x6)
noncomputable def A_keep_ConsumerRipens_l2 : Ann := ⟨[], [], [], live_keep_ConsumerRipens, []⟩
noncomputable def q_keep_ConsumerRipens_l2 : LQ (Int × Int × Int × (List ByteArray) × Int × Int × Consumer) := (LQ.seq (Par.q intP) (LQ.seq (Par.q intP) (LQ.seq (Par.q intP) (LQ.skip (LQ.const (.ptr 0 0)) (LQ.seq (Par.q strsP) (LQ.seq (Par.q intP) (LQ.seq (Par.q intP) (LP.q consumerL))))))))
noncomputable def p_keep_ConsumerRipens_l2 : Pat := ⟨[1, 2, 8, 15, 108, 109, 110], [.pub 108, .nilsl 108 (.strs [])]⟩
noncomputable def s_keep_ConsumerRipens_l2 : List BS := [.cells 34 22]
noncomputable def q_keep_ConsumerRipens_l2_e0 : LQ (Bool) := (Par.q boolP)
noncomputable def p_keep_ConsumerRipens_l2_e0 : Pat := ⟨[6], []⟩
noncomputable def s_keep_ConsumerRipens_l2_e0 : List BS := []
noncomputable def q_keep_ConsumerRipens_l2_e1 : LQ (Int × Consumer) := (LQ.seq (Par.q intP) (LQ.skip (LQ.const (.ptr 0 0)) (LP.q consumerL)))
noncomputable def p_keep_ConsumerRipens_l2_e1 : Pat := ⟨[8, 15], []⟩
noncomputable def s_keep_ConsumerRipens_l2_e1 : List BS := [.cells 34 22]
noncomputable def L_keep_ConsumerRipens_l2 : St → Option LR := pieceL q_keep_ConsumerRipens_l2 160 0 p_keep_ConsumerRipens_l2 s_keep_ConsumerRipens_l2 (fun o => LR.two o (fun r => (.ret, stP q_keep_ConsumerRipens_l2_e0 160 4 p_keep_ConsumerRipens_l2_e0 s_keep_ConsumerRipens_l2_e0 r)) (fun r => (.exit 2, stP q_keep_ConsumerRipens_l2_e1 160 4 p_keep_ConsumerRipens_l2_e1 s_keep_ConsumerRipens_l2_e1 r))) (fun a => iter (fun s : Int × Int × Int × (List ByteArray) × Int × Int × Consumer => (T_keep_ConsumerRipens_l2 s.1 s.2.1 s.2.2.1 s.2.2.2.1 s.2.2.2.2.1 s.2.2.2.2.2.1 s.2.2.2.2.2.2).run) a)
noncomputable def E_keep_ConsumerRipens_l2 : Exit → Option (End ((Int × Int × Int × (List ByteArray) × Int × Int × Consumer) ⊕ ((Bool) ⊕ (Int × Consumer))))
  | .normal => some ⟨_, q_keep_ConsumerRipens_l2, p_keep_ConsumerRipens_l2, s_keep_ConsumerRipens_l2, fun b => .inl b⟩
  | .ret => some ⟨_, q_keep_ConsumerRipens_l2_e0, p_keep_ConsumerRipens_l2_e0, s_keep_ConsumerRipens_l2_e0, fun b => .inr (.inl b)⟩
  | .exit 2 => some ⟨_, q_keep_ConsumerRipens_l2_e1, p_keep_ConsumerRipens_l2_e1, s_keep_ConsumerRipens_l2_e1, fun b => .inr (.inr b)⟩
  | _ => none
noncomputable def O_keep_ConsumerRipens_l2 : ((Int × Int × Int × (List ByteArray) × Int × Int × Consumer) ⊕ ((Bool) ⊕ (Int × Consumer))) → Exit × St
  | .inl b => (.normal, stP q_keep_ConsumerRipens_l2 160 4 p_keep_ConsumerRipens_l2 s_keep_ConsumerRipens_l2 b)
  | .inr (.inl b) => (.ret, stP q_keep_ConsumerRipens_l2_e0 160 4 p_keep_ConsumerRipens_l2_e0 s_keep_ConsumerRipens_l2_e0 b)
  | .inr (.inr b) => (.exit 2, stP q_keep_ConsumerRipens_l2_e1 160 4 p_keep_ConsumerRipens_l2_e1 s_keep_ConsumerRipens_l2_e1 b)
theorem lok_keep_ConsumerRipens_l2 : PieceOk (Y_keep_ConsumerRipens).env 0 (sub C_keep_ConsumerRipens [0, 1, 0, 1, 1, 1, 1, 1, 1, 1, 1, 1, 1]) L_keep_ConsumerRipens_l2 :=
  loop_ok (Y := Y_keep_ConsumerRipens) (A := A_keep_ConsumerRipens_l2) hY_keep_ConsumerRipens Facts.mix (root := C_keep_ConsumerRipens) (L := 0) trivial (π := [0, 1, 0, 1, 1, 1, 1, 1, 1, 1, 1, 1, 1]) (c := loopB (sub C_keep_ConsumerRipens [0, 1, 0, 1, 1, 1, 1, 1, 1, 1, 1, 1, 1])) (by kernel_rfl) q_keep_ConsumerRipens_l2 160 4 p_keep_ConsumerRipens_l2 s_keep_ConsumerRipens_l2 E_keep_ConsumerRipens_l2 (fun s => T_keep_ConsumerRipens_l2 s.1 s.2.1 s.2.2.1 s.2.2.2.1 s.2.2.2.2.1 s.2.2.2.2.2.1 s.2.2.2.2.2.2) O_keep_ConsumerRipens_l2 (by intro e d h b; unfold E_keep_ConsumerRipens_l2 at h; split at h <;> first | (cases h; rfl) | cases h) (fun _ => rfl) (by intro r; cases r <;> exact (fun h => by cases h)) (fun o => LR.two o (fun r => (.ret, stP q_keep_ConsumerRipens_l2_e0 160 4 p_keep_ConsumerRipens_l2_e0 s_keep_ConsumerRipens_l2_e0 r)) (fun r => (.exit 2, stP q_keep_ConsumerRipens_l2_e1 160 4 p_keep_ConsumerRipens_l2_e1 s_keep_ConsumerRipens_l2_e1 r))) (by intro o Q h; exact Or.elim h (fun ⟨v, h1, h2⟩ => ⟨_, h1, h2⟩) (fun ⟨v, h1, h2⟩ => ⟨_, h1, h2⟩))
    (by rintro ⟨x0, x1, x2, x3, x4, x5, x6⟩; kernel_rfl)
noncomputable def A_keep_ConsumerRipens : Ann := ⟨[([0, 1, 0, 1, 1, 1, 1, 1], L_keep_ConsumerRipens_l1), ([0, 1, 0, 1, 1, 1, 1, 1, 1, 1, 1, 1, 1], L_keep_ConsumerRipens_l2)], [], [], live_keep_ConsumerRipens, []⟩
noncomputable def T_keep_ConsumerRipens (a0 : (List Int)) (a1 : Int) (a2 : Int) : Tr (Bool) :=
  (.bind (sh_keep_consumes) fun v1 =>
  (.ite (!v1)
    (.leaf false)
    (.bind (sh_keep_pick a1 1000) fun v2 =>
    (.bind (sh_keep_pick a2 60) fun v3 =>
    (.bind (sh_consumer_Begin [(⟨0, 1⟩ : Power)] 1 0) fun v5 =>
    (.two (sh_keep_ConsumerRipens_l1 a0 v2 v3 0 0 v5) (fun v8 =>
      (.leaf v8)) (fun v9 =>
      (.bind (sh_consumer_End v9.2.2.2 v9.1) fun v10 =>
      (.bind (sh_consumer_End v10.1 (IntKind.i64.wrap (v9.1 + v9.2.1))) fun v11 =>
      (.ite ((((v10.2 != 0) || (v11.2 != 0)) || (((v10.1.Out.Said.length : Nat) : Int) != 0)) || (((v10.1.Ripes.length : Nat) : Int) != v9.2.2.1))
        (.leaf false)
        (.ite (decide (v9.2.1 < 15))
          (.leaf ((((v11.1.Out.Said.length : Nat) : Int) == 0) && (((v11.1.Ripes.length : Nat) : Int) == v9.2.2.1)))
          (.two (sh_keep_ConsumerRipens_l2 v9.1 v9.2.1 v9.2.2.1 v11.1.Out.Said ((v11.1.Out.Said.length : Nat) : Int) 0 v11.1) (fun v13 =>
            (.leaf v13)) (fun v14 =>
            (.leaf ((((v14.2.Out.Said.length : Nat) : Int) == v14.1) && (((v14.2.Ripes.length : Nat) : Int) == 0))))))))))))))))
noncomputable def sh_keep_ConsumerRipens (a0 : (List Int)) (a1 : Int) (a2 : Int) : Option (Bool) := (T_keep_ConsumerRipens a0 a1 a2).run
noncomputable def qa_keep_ConsumerRipens : LQ ((List Int) × Int × Int) := (LQ.seq (Par.q intsP) (LQ.seq (Par.q intP) (Par.q intP)))
noncomputable def qr_keep_ConsumerRipens : LQ (Bool) := (Par.q boolP)
noncomputable def F_keep_ConsumerRipens : SpecT := specF 0 qa_keep_ConsumerRipens 3 [] (fun s => T_keep_ConsumerRipens s.1 s.2.1 s.2.2) default qr_keep_ConsumerRipens 1 []
theorem ok_keep_ConsumerRipens : SpecOk Try.prog 7 (F_keep_ConsumerRipens).spec :=
  specF_ok (Y := Y_keep_ConsumerRipens) (A := A_keep_ConsumerRipens) hY_keep_ConsumerRipens Facts.mix Try.func7 (c := C_keep_ConsumerRipens) (by kernel_rfl) (Lc := 0) ⟨lok_keep_ConsumerRipens_l1, lok_keep_ConsumerRipens_l2, trivial⟩ qa_keep_ConsumerRipens 3 4 [] (fun s => T_keep_ConsumerRipens s.1 s.2.1 s.2.2) default qr_keep_ConsumerRipens 1 [] [] (by decide) (by kernel_rfl) (by rfl) (by decide) (by decide) (by rfl)
    (by rintro ⟨a0, a1, a2⟩; kernel_rfl)

noncomputable def C_keep_ConsumerApplies : Code := Try.f8.body.getD .skip
noncomputable def live_keep_ConsumerApplies : List (List Nat) := [[0, 1, 2, 3], [0, 1, 2, 3, 21], [8], [0, 1, 2, 3], [0, 1, 2, 3], [0, 1, 2, 3, 9], [0, 1, 2, 3, 9, 10], [1, 2, 3, 9, 10, 11], [1, 2, 3, 9, 10, 11, 12], [1, 2, 3, 9, 10, 11, 12, 39], [1, 2, 3, 9, 10, 11, 12], [1, 2, 3, 9, 10, 11, 12, 13], [1, 2, 3, 9, 10, 12, 13, 14, 15], [1, 2, 3, 9, 10, 12, 13, 14, 15], [1, 2, 3, 9, 10, 12, 13, 14, 15, 16], [1, 2, 3, 9, 10, 12, 13, 15, 16, 17], [1, 2, 3, 9, 10, 12, 13, 78], [8], [1, 2, 3, 9, 10, 11, 12, 13], [1, 2, 3, 9, 10, 11, 12, 13, 82], [1, 2, 3, 9, 10, 11, 12, 13, 17], [1, 2, 3, 9, 10, 11, 12, 104], [8], [3, 9, 10, 11, 18], [9, 10, 11, 18, 19], [8]]
noncomputable def Y_keep_ConsumerApplies : EnvT := ⟨Try.prog, lookT [(28, F_keep_consumes), (29, F_keep_pick), (32, F_keep_made), (11, F_consumer_Begin), (33, F_stake_Diff), (30, F_codec_Encode), (24, F_consumer_Hear), (16, F_consumer_End), (34, F_keep_samePowers)]⟩
theorem hY_keep_ConsumerApplies : (Y_keep_ConsumerApplies).Ok := lookT_ok ⟨ok_keep_consumes, ok_keep_pick, ok_keep_made, ok_consumer_Begin, ok_stake_Diff, ok_codec_Encode, ok_consumer_Hear, ok_consumer_End, ok_keep_samePowers, trivial⟩
noncomputable def T_keep_ConsumerApplies_l1 (x0 : (List (List Int))) (x1 : Int) (x2 : Int) (x3 : (List Power)) (x4 : Int) (x5 : Consumer) (x6 : Consumer) : Tr (((List (List Int)) × Int × Int × (List Power) × Int × Consumer × Consumer) ⊕ ((Bool) ⊕ (Int × (List Power) × Consumer × Consumer))) :=
  (.ite ((decide (x4 < ((x0.length : Nat) : Int))) && (decide (x4 < 8)))
    (.guard ((0 : Int) ≤ x4 ∧ x4 < ((Sl.len (.intss x0) : Nat) : Int))
    (.bind (sh_keep_made (x0.getD x4.toNat [])) fun v7 =>
    (.bind (sh_stake_Diff x3 v7) fun v8 =>
    (.bind (sh_codec_Encode (⟨1, IntKind.i64.wrap (2 + x4), 0, 0, v8, []⟩ : Packet)) fun v9 =>
    (.bind (sh_consumer_Hear x5 v9.1) fun v10 =>
    (.bind (sh_consumer_Hear x6 v9.1) fun v11 =>
    (.ite (((v9.2 != 0) || (v10.2 != 0)) || (v11.2 != 0))
      (.leaf (.inr (.inl false)))
      (.ite (x4 == x1)
        (.bind (sh_consumer_End v11.1 x2) fun v12 =>
        (.guard (((v12.2 != 0) = false → ((sh_keep_samePowers v12.1.Set v7).isSome = true) ∧ True))
        (.ite (((v12.2 != 0) || (!((sh_keep_samePowers v12.1.Set v7).getD default))) || (v12.1.Id != (IntKind.i64.wrap (2 + x4))))
          (.leaf (.inr (.inl false)))
          (.leaf (.inl (x0, x1, x2, v7, IntKind.i64.wrap (x4 + 1), v10.1, v12.1))))))
        (.leaf (.inl (x0, x1, x2, v7, IntKind.i64.wrap (x4 + 1), v10.1, v11.1)))))))))))
    (.leaf (.inr (.inr (x2, x3, x5, x6)))))
noncomputable def sh_keep_ConsumerApplies_l1 (x0 : (List (List Int))) (x1 : Int) (x2 : Int) (x3 : (List Power)) (x4 : Int) (x5 : Consumer) (x6 : Consumer) : Option ((Bool) ⊕ (Int × (List Power) × Consumer × Consumer)) := iter (fun s : (List (List Int)) × Int × Int × (List Power) × Int × Consumer × Consumer => (T_keep_ConsumerApplies_l1 s.1 s.2.1 s.2.2.1 s.2.2.2.1 s.2.2.2.2.1 s.2.2.2.2.2.1 s.2.2.2.2.2.2).run) (x0, x1, x2, x3, x4, x5, x6)
noncomputable def A_keep_ConsumerApplies_l1 : Ann := ⟨[], [], [], live_keep_ConsumerApplies, []⟩
noncomputable def q_keep_ConsumerApplies_l1 : LQ ((List (List Int)) × Int × Int × (List Power) × Int × Consumer × Consumer) := (LQ.seq (Par.q intssP) (LQ.seq (Par.q intP) (LQ.seq (Par.q intP) (LQ.skip (LQ.const (.ptr 0 0)) (LQ.skip (LQ.const (.ptr 1 0)) (LQ.seq (Par.q powersP) (LQ.seq (Par.q intP) (LQ.seq (LP.q consumerL) (LP.q consumerL)))))))))
noncomputable def p_keep_ConsumerApplies_l1 : Pat := ⟨[1, 2, 3, 9, 10, 11, 12], [.pub 1, .nilsl 1 (.intss []), .pub 11, .nilsl 11 (.powers [])]⟩
noncomputable def s_keep_ConsumerApplies_l1 : List BS := [.cells 34 22, .cells 34 22]
noncomputable def q_keep_ConsumerApplies_l1_e0 : LQ (Bool) := (Par.q boolP)
noncomputable def p_keep_ConsumerApplies_l1_e0 : Pat := ⟨[8], []⟩
noncomputable def s_keep_ConsumerApplies_l1_e0 : List BS := []
noncomputable def q_keep_ConsumerApplies_l1_e1 : LQ (Int × (List Power) × Consumer × Consumer) := (LQ.seq (Par.q intP) (LQ.skip (LQ.const (.ptr 0 0)) (LQ.skip (LQ.const (.ptr 1 0)) (LQ.seq (Par.q powersP) (LQ.seq (LP.q consumerL) (LP.q consumerL))))))
noncomputable def p_keep_ConsumerApplies_l1_e1 : Pat := ⟨[3, 9, 10, 11], [.pub 11, .nilsl 11 (.powers [])]⟩
noncomputable def s_keep_ConsumerApplies_l1_e1 : List BS := [.cells 34 22, .cells 34 22]
noncomputable def L_keep_ConsumerApplies_l1 : St → Option LR := pieceL q_keep_ConsumerApplies_l1 158 0 p_keep_ConsumerApplies_l1 s_keep_ConsumerApplies_l1 (fun o => LR.two o (fun r => (.ret, stP q_keep_ConsumerApplies_l1_e0 158 4 p_keep_ConsumerApplies_l1_e0 s_keep_ConsumerApplies_l1_e0 r)) (fun r => (.exit 0, stP q_keep_ConsumerApplies_l1_e1 158 4 p_keep_ConsumerApplies_l1_e1 s_keep_ConsumerApplies_l1_e1 r))) (fun a => iter (fun s : (List (List Int)) × Int × Int × (List Power) × Int × Consumer × Consumer => (T_keep_ConsumerApplies_l1 s.1 s.2.1 s.2.2.1 s.2.2.2.1 s.2.2.2.2.1 s.2.2.2.2.2.1 s.2.2.2.2.2.2).run) a)
noncomputable def E_keep_ConsumerApplies_l1 : Exit → Option (End (((List (List Int)) × Int × Int × (List Power) × Int × Consumer × Consumer) ⊕ ((Bool) ⊕ (Int × (List Power) × Consumer × Consumer))))
  | .normal => some ⟨_, q_keep_ConsumerApplies_l1, p_keep_ConsumerApplies_l1, s_keep_ConsumerApplies_l1, fun b => .inl b⟩
  | .ret => some ⟨_, q_keep_ConsumerApplies_l1_e0, p_keep_ConsumerApplies_l1_e0, s_keep_ConsumerApplies_l1_e0, fun b => .inr (.inl b)⟩
  | .exit 0 => some ⟨_, q_keep_ConsumerApplies_l1_e1, p_keep_ConsumerApplies_l1_e1, s_keep_ConsumerApplies_l1_e1, fun b => .inr (.inr b)⟩
  | _ => none
noncomputable def O_keep_ConsumerApplies_l1 : (((List (List Int)) × Int × Int × (List Power) × Int × Consumer × Consumer) ⊕ ((Bool) ⊕ (Int × (List Power) × Consumer × Consumer))) → Exit × St
  | .inl b => (.normal, stP q_keep_ConsumerApplies_l1 158 4 p_keep_ConsumerApplies_l1 s_keep_ConsumerApplies_l1 b)
  | .inr (.inl b) => (.ret, stP q_keep_ConsumerApplies_l1_e0 158 4 p_keep_ConsumerApplies_l1_e0 s_keep_ConsumerApplies_l1_e0 b)
  | .inr (.inr b) => (.exit 0, stP q_keep_ConsumerApplies_l1_e1 158 4 p_keep_ConsumerApplies_l1_e1 s_keep_ConsumerApplies_l1_e1 b)
theorem lok_keep_ConsumerApplies_l1 : PieceOk (Y_keep_ConsumerApplies).env 0 (sub C_keep_ConsumerApplies [0, 1, 0, 1, 1, 1, 1, 1, 1, 1]) L_keep_ConsumerApplies_l1 :=
  loop_ok (Y := Y_keep_ConsumerApplies) (A := A_keep_ConsumerApplies_l1) hY_keep_ConsumerApplies Facts.mix (root := C_keep_ConsumerApplies) (L := 0) trivial (π := [0, 1, 0, 1, 1, 1, 1, 1, 1, 1]) (c := loopB (sub C_keep_ConsumerApplies [0, 1, 0, 1, 1, 1, 1, 1, 1, 1])) (by kernel_rfl) q_keep_ConsumerApplies_l1 158 4 p_keep_ConsumerApplies_l1 s_keep_ConsumerApplies_l1 E_keep_ConsumerApplies_l1 (fun s => T_keep_ConsumerApplies_l1 s.1 s.2.1 s.2.2.1 s.2.2.2.1 s.2.2.2.2.1 s.2.2.2.2.2.1 s.2.2.2.2.2.2) O_keep_ConsumerApplies_l1 (by intro e d h b; unfold E_keep_ConsumerApplies_l1 at h; split at h <;> first | (cases h; rfl) | cases h) (fun _ => rfl) (by intro r; cases r <;> exact (fun h => by cases h)) (fun o => LR.two o (fun r => (.ret, stP q_keep_ConsumerApplies_l1_e0 158 4 p_keep_ConsumerApplies_l1_e0 s_keep_ConsumerApplies_l1_e0 r)) (fun r => (.exit 0, stP q_keep_ConsumerApplies_l1_e1 158 4 p_keep_ConsumerApplies_l1_e1 s_keep_ConsumerApplies_l1_e1 r))) (by intro o Q h; exact Or.elim h (fun ⟨v, h1, h2⟩ => ⟨_, h1, h2⟩) (fun ⟨v, h1, h2⟩ => ⟨_, h1, h2⟩))
    (by rintro ⟨x0, x1, x2, x3, x4, x5, x6⟩; kernel_rfl)
noncomputable def A_keep_ConsumerApplies : Ann := ⟨[([0, 1, 0, 1, 1, 1, 1, 1, 1, 1], L_keep_ConsumerApplies_l1)], [], [], live_keep_ConsumerApplies, []⟩
noncomputable def T_keep_ConsumerApplies (a0 : (List Int)) (a1 : (List (List Int))) (a2 : Int) (a3 : Int) : Tr (Bool) :=
  (.bind (sh_keep_consumes) fun v1 =>
  (.ite (!v1)
    (.leaf false)
    (.bind (sh_keep_pick a3 1000) fun v2 =>
    (.bind (sh_keep_pick a2 9) fun v3 =>
    (.bind (sh_keep_made a0) fun v4 =>
    (.bind (sh_consumer_Begin v4 1 0) fun v5 =>
    (.bind (sh_keep_made a0) fun v6 =>
    (.two (sh_keep_ConsumerApplies_l1 a1 v3 v2 v6 0 v5 v5) (fun v13 =>
      (.leaf v13)) (fun v14 =>
      (.bind (sh_consumer_End v14.2.2.1 v14.1) fun v15 =>
      (.bind (sh_consumer_End v14.2.2.2 v14.1) fun v16 =>
      (.guard ((((v15.2 == 0) && (v16.2 == 0)) = true → ((sh_keep_samePowers v15.1.Set v14.2.1).isSome = true) ∧ True))
      (.guard (((((v15.2 == 0) && (v16.2 == 0)) && ((sh_keep_samePowers v15.1.Set v14.2.1).getD default)) = true → ((sh_keep_samePowers v15.1.Set v16.1.Set).isSome = true) ∧ True))
      (.leaf (((((((v15.2 == 0) && (v16.2 == 0)) && ((sh_keep_samePowers v15.1.Set v14.2.1).getD default)) && ((sh_keep_samePowers v15.1.Set v16.1.Set).getD default)) && (v15.1.Id == v16.1.Id)) && (((v15.1.Ripes.length : Nat) : Int) == ((v16.1.Ripes.length : Nat) : Int))) && (((v15.1.Pending.length : Nat) : Int) == 0))))))))))))))))
noncomputable def sh_keep_ConsumerApplies (a0 : (List Int)) (a1 : (List (List Int))) (a2 : Int) (a3 : Int) : Option (Bool) := (T_keep_ConsumerApplies a0 a1 a2 a3).run
noncomputable def qa_keep_ConsumerApplies : LQ ((List Int) × (List (List Int)) × Int × Int) := (LQ.seq (Par.q intsP) (LQ.seq (Par.q intssP) (LQ.seq (Par.q intP) (Par.q intP))))
noncomputable def qr_keep_ConsumerApplies : LQ (Bool) := (Par.q boolP)
noncomputable def F_keep_ConsumerApplies : SpecT := specF 0 qa_keep_ConsumerApplies 4 [] (fun s => T_keep_ConsumerApplies s.1 s.2.1 s.2.2.1 s.2.2.2) default qr_keep_ConsumerApplies 1 []
theorem ok_keep_ConsumerApplies : SpecOk Try.prog 8 (F_keep_ConsumerApplies).spec :=
  specF_ok (Y := Y_keep_ConsumerApplies) (A := A_keep_ConsumerApplies) hY_keep_ConsumerApplies Facts.mix Try.func8 (c := C_keep_ConsumerApplies) (by kernel_rfl) (Lc := 0) ⟨lok_keep_ConsumerApplies_l1, trivial⟩ qa_keep_ConsumerApplies 4 4 [] (fun s => T_keep_ConsumerApplies s.1 s.2.1 s.2.2.1 s.2.2.2) default qr_keep_ConsumerApplies 1 [] [] (by decide) (by kernel_rfl) (by rfl) (by decide) (by decide) (by rfl)
    (by rintro ⟨a0, a1, a2, a3⟩; kernel_rfl)

noncomputable def C_keep_ConsumerFlags : Code := Try.f9.body.getD .skip
noncomputable def live_keep_ConsumerFlags : List (List Nat) := [[1, 2, 3], [1, 2, 3, 7, 8], [1, 2, 3, 7, 29], [6], [1, 2, 3, 7, 10], [1, 2, 3, 7, 58], [6], [1, 2, 3, 7, 11, 12], [1, 2, 3, 7, 92], [6], [1, 2, 3, 7, 13, 14], [1, 2, 3, 14, 15, 16], [1, 2, 3, 15, 111], [6], [1, 15, 16], [6]]
noncomputable def Y_keep_ConsumerFlags : EnvT := ⟨Try.prog, lookT [(20, F_consumer_Down), (28, F_keep_consumes), (31, F_codec_Decode), (30, F_codec_Encode), (24, F_consumer_Hear), (16, F_consumer_End)]⟩
theorem hY_keep_ConsumerFlags : (Y_keep_ConsumerFlags).Ok := lookT_ok ⟨ok_consumer_Down, ok_keep_consumes, ok_codec_Decode, ok_codec_Encode, ok_consumer_Hear, ok_consumer_End, trivial⟩
noncomputable def A_keep_ConsumerFlags : Ann := ⟨[], [], [], live_keep_ConsumerFlags, []⟩
noncomputable def T_keep_ConsumerFlags (a0 : Consumer) (a1 : Int) (a2 : Int) : Tr (Bool) :=
  (.bind (sh_consumer_Down a0 a1 a2) fun v1 =>
  (.guard (((v1.2 != 0) = false → ((sh_keep_consumes).isSome = true) ∧ True))
  (.ite ((v1.2 != 0) || (!((sh_keep_consumes).getD default)))
    (.bind (sh_keep_consumes) fun v2 =>
    (.leaf v2))
    (.bind (sh_consumer_Down v1.1 a1 a2) fun v3 =>
    (.guard (((v3.2 != 5) = false → ((0 : Int) ≤ a1 ∧ (a1 : Int) < 6) ∧ True))
    (.ite (((v3.2 != 5) || (!(v1.1.Flags.get a1))) || ((IntKind.i64.wrap (((v1.1.Out.Said.length : Nat) : Int) - ((a0.Out.Said.length : Nat) : Int))) != 1))
      (.leaf false)
      (.guard ((0 : Int) ≤ (IntKind.i64.wrap (((v1.1.Out.Said.length : Nat) : Int) - 1)) ∧ (IntKind.i64.wrap (((v1.1.Out.Said.length : Nat) : Int) - 1)) < ((Sl.len (.strs v1.1.Out.Said) : Nat) : Int))
      (.bind (sh_codec_Decode (v1.1.Out.Said.getD ((IntKind.i64.wrap (((v1.1.Out.Said.length : Nat) : Int) - 1)).toNat) .empty)) fun v4 =>
      (.ite ((((v4.2 != 0) || (v4.1.Kind != 3)) || (v4.1.V != a1)) || (v4.1.Id != a0.Id))
        (.leaf false)
        (.bind (sh_codec_Encode (⟨1, 1, 0, 0, [], [a1]⟩ : Packet)) fun v5 =>
        (.bind (sh_consumer_Hear v1.1 v5.1) fun v6 =>
        (.ite ((v5.2 != 0) || (v6.2 != 0))
          (.leaf false)
          (.bind (sh_consumer_End v6.1 (if a0.Time > a2 then a0.Time else a2)) fun v7 =>
          (.guard (((v7.2 == 0) = true → ((0 : Int) ≤ a1 ∧ (a1 : Int) < 6) ∧ True))
          (.leaf ((v7.2 == 0) && (!(v7.1.Flags.get a1))))))))))))))))))
noncomputable def sh_keep_ConsumerFlags (a0 : Consumer) (a1 : Int) (a2 : Int) : Option (Bool) := (T_keep_ConsumerFlags a0 a1 a2).run
noncomputable def qa_keep_ConsumerFlags : LQ (Consumer × Int × Int) := (LQ.seq (Par.q (Par.ofLP consumerL)) (LQ.seq (Par.q intP) (Par.q intP)))
noncomputable def qr_keep_ConsumerFlags : LQ (Bool) := (Par.q boolP)
noncomputable def F_keep_ConsumerFlags : SpecT := specF 0 qa_keep_ConsumerFlags 3 [] (fun s => T_keep_ConsumerFlags s.1 s.2.1 s.2.2) default qr_keep_ConsumerFlags 1 []
theorem ok_keep_ConsumerFlags : SpecOk Try.prog 9 (F_keep_ConsumerFlags).spec :=
  specF_ok (Y := Y_keep_ConsumerFlags) (A := A_keep_ConsumerFlags) hY_keep_ConsumerFlags Facts.mix Try.func9 (c := C_keep_ConsumerFlags) (by kernel_rfl) (Lc := 0) trivial qa_keep_ConsumerFlags 3 8 [] (fun s => T_keep_ConsumerFlags s.1 s.2.1 s.2.2) default qr_keep_ConsumerFlags 1 [] [] (by decide) (by kernel_rfl) (by rfl) (by decide) (by decide) (by rfl)
    (by rintro ⟨a0, a1, a2⟩; kernel_rfl)

end Go.Proofs.Ythhdljniheaeoaa.Ab
