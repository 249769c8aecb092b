/-
  The functions, each by its tree.
-/
import Derived.Test.YtbpehnghffljiaaFacts
import Derived.Test.YtbpehnghffljiaaAbStructs
import Derived.Test.YtbpehnghffljiaaAbFun
import Derived.Test.YtbpehnghffljiaaFRatio
import Derived.Test.YtbpehnghffljiaaFBank
import Derived.Test.YtbpehnghffljiaaFRefA
namespace Go.Proofs.Ytbpehnghffljiaa.Ab
open Go Go.RowKit
set_option maxRecDepth 100000
set_option linter.unusedVariables false
set_option linter.unusedSimpArgs false

noncomputable def C_ref_Undelegate : Code := Try.f43.body.getD .skip
noncomputable def live_ref_Undelegate : List (List Nat) := [[1, 2, 3, 5, 9, 10], [1, 2, 3, 5, 9, 10, 12], [1, 2, 3, 5, 9, 10, 12, 24], [10, 11], [1, 2, 3, 5, 9, 10, 42], [10, 11], [1, 2, 3, 5, 9, 10, 51], [10, 11], [1, 2, 3, 5, 9, 10, 61], [10, 11], [1, 2, 3, 5, 9, 10, 13], [1, 2, 3, 5, 9, 10, 14], [1, 2, 3, 5, 9, 10, 14, 77], [10, 11], [1, 2, 3, 5, 9, 10, 14, 16, 17], [1, 2, 3, 5, 9, 10, 14, 16, 17, 87], [10, 11], [1, 2, 3, 5, 9, 10, 14, 16, 18], [1, 2, 3, 5, 9, 10, 14, 18], [1, 2, 3, 5, 9, 10, 14, 18], [1, 2, 3, 5, 9, 10, 14, 18], [1, 2, 5, 9, 10, 14, 18], [5, 10, 18], [10, 18], [10, 11]]
noncomputable def Y_ref_Undelegate : EnvT := ⟨Try.prog, lookT [(55, F_ref_some), (56, F_ref_MulDiv), (74, F_ref_Unbond), (15, F_ref_CopyStake_o)]⟩
theorem hY_ref_Undelegate : (Y_ref_Undelegate).Ok := lookT_ok ⟨ok_ref_some, ok_ref_MulDiv, ok_ref_Unbond, ok_ref_CopyStake_o, trivial⟩
noncomputable def A_ref_Undelegate : Ann := ⟨[], [], [], live_ref_Undelegate, []⟩
noncomputable def T_ref_Undelegate (a0 : Stake) (a1 : Int) (a2 : Int) (a3 : Int) (a4 : Wait) : Tr (Stake × Int) :=
  (.bind (sh_ref_some a0 a1 a2) fun v1 =>
  (.ite (v1 != 0)
    (.leaf (a0, v1))
    (.ite ((((decide (a3 < 1)) || (decide (a3 > 1125899906842624))) || (decide (a4.Height < 0))) || (decide (a4.Due < 0)))
      (.leaf (a0, 2))
      (.guard ((0 : Int) ≤ a1 ∧ (a1 : Int) < 4)
      (.guard ((0 : Int) ≤ a2 ∧ (a2 : Int) < 6)
      (.ite (decide (a3 > (A46.get a0.Shares a1 a2)))
        (.leaf (a0, 7))
        (.ite ((((a0.Waits.length : Nat) : Int) == 60) || (a0.Next == 1125899906842624))
          (.leaf (a0, 6))
          (.guard ((0 : Int) ≤ a2 ∧ (a2 : Int) < 6)
          (.bind (sh_ref_MulDiv a3 (a0.Validators.Tokens.get a2) (a0.Validators.Shares.get a2)) fun v2 =>
          (.ite (decide (v2.1 < 1))
            (.leaf (a0, 8))
            (.bind (sh_ref_Unbond a0.Bank v2.1) fun v3 =>
            (.ite (v3.2 != 0)
              (.leaf (a0, v3.2))
              (.bind (sh_ref_CopyStake_o a0) fun v4 =>
              (.guard ((0 : Int) ≤ a2 ∧ (a2 : Int) < 6)
              (.guard ((0 : Int) ≤ a2 ∧ (a2 : Int) < 6)
              (.guard ((0 : Int) ≤ a2 ∧ (a2 : Int) < 6)
              (.guard ((0 : Int) ≤ a2 ∧ (a2 : Int) < 6)
              (.guard ((0 : Int) ≤ a1 ∧ (a1 : Int) < 4)
              (.guard ((0 : Int) ≤ a2 ∧ (a2 : Int) < 6)
              (.guard ((0 : Int) ≤ a1 ∧ (a1 : Int) < 4)
              (.guard ((0 : Int) ≤ a2 ∧ (a2 : Int) < 6)
              (.guard ((Sl.len (.waits v4.Waits) + Sl.len (.waits [{ (a4 : Wait) with Number := a0.Next, D := a1, V := a2, Amount := v2.1 }])) * 64 ≤ 140737488355328)
              (.leaf ((⟨v3.1, { (v4.Validators : Validators) with Tokens := (v4.Validators.Tokens.set a2 (IntKind.i64.wrap ((v4.Validators.Tokens.get a2) - v2.1))), Shares := (v4.Validators.Shares.set a2 (IntKind.i64.wrap ((v4.Validators.Shares.get a2) - a3))) }, (A46.set v4.Shares a1 a2 (IntKind.i64.wrap ((A46.get v4.Shares a1 a2) - a3))), v4.Waits ++ [{ (a4 : Wait) with Number := a0.Next, D := a1, V := a2, Amount := v2.1 }], IntKind.i64.wrap (a0.Next + 1)⟩ : Stake), 0))))))))))))))))))))))))
noncomputable def sh_ref_Undelegate (a0 : Stake) (a1 : Int) (a2 : Int) (a3 : Int) (a4 : Wait) : Option (Stake × Int) := (T_ref_Undelegate a0 a1 a2 a3 a4).run
noncomputable def qa_ref_Undelegate : LQ (Stake × Int × Int × Int × Wait) := (LQ.seq (Par.q (Par.ofLP stakeL)) (LQ.seq (Par.q intP) (LQ.seq (Par.q intP) (LQ.seq (Par.q intP) (Par.q (Par.ofLP waitL))))))
noncomputable def qr_ref_Undelegate : LQ (Stake × Int) := (LQ.seq (Par.q (Par.ofLP stakeL)) (Par.q intP))
noncomputable def F_ref_Undelegate : SpecT := specF 0 qa_ref_Undelegate 5 [] (fun s => T_ref_Undelegate s.1 s.2.1 s.2.2.1 s.2.2.2.1 s.2.2.2.2) default qr_ref_Undelegate 2 []
theorem ok_ref_Undelegate : SpecOk Try.prog 43 (F_ref_Undelegate).spec :=
  specF_ok (Y := Y_ref_Undelegate) (A := A_ref_Undelegate) hY_ref_Undelegate Facts.mix Try.func43 (c := C_ref_Undelegate) (by kernel_rfl) (Lc := 0) trivial qa_ref_Undelegate 5 11 [] (fun s => T_ref_Undelegate s.1 s.2.1 s.2.2.1 s.2.2.2.1 s.2.2.2.2) default qr_ref_Undelegate 2 [] [.pubB 10] (by decide) (by kernel_rfl) (by rfl) (by decide) (by decide) (by rfl)
    (by rintro ⟨a0, a1, a2, a3, a4⟩; kernel_rfl)

noncomputable def C_ref_Release : Code := Try.f47.body.getD .skip
noncomputable def live_ref_Release : List (List Nat) := [[1, 2, 3, 6], [1, 2, 6, 7], [1, 2, 6, 7, 15, 16, 17], [1, 2, 6, 7, 15, 16, 17, 18], [1, 2, 6, 7, 8, 9, 15, 16, 17], [1, 2, 6, 7, 8, 15, 16, 17, 23, 24], [1, 2, 6, 7, 8, 15, 16, 17, 23, 24, 25], [1, 2, 6, 7, 8, 10, 11, 15, 16, 17, 23, 24], [1, 2, 6, 7, 8, 10, 15, 16, 17, 23, 24, 35], [1, 2, 6, 7, 8, 15, 16, 17, 23, 24], [1, 2, 6, 7, 8, 15, 16, 17, 23, 24], [1, 2, 6, 7, 15, 16, 17], [6]]
noncomputable def Y_ref_Release : EnvT := ⟨Try.prog, lookT [(15, F_ref_CopyStake_o)]⟩
theorem hY_ref_Release : (Y_ref_Release).Ok := lookT_ok ⟨ok_ref_CopyStake_o, trivial⟩
noncomputable def T_ref_Release_l1 (x0 : Int) (x1 : Int) (x2 : Int) (x3 : Int) (x4 : Int) (x5 : (A2 Int)) (x6 : Int) (x7 : Stake) (x8 : Stake) : Tr ((Int × Int × Int × Int × Int × (A2 Int) × Int × Stake × Stake) ⊕ (Int × Int × Int × Int × Stake × Stake)) :=
  (.ite (decide (x6 < 2))
    (.guard ((0 : Int) ≤ x6 ∧ (x6 : Int) < 2)
    (.ite ((x6 == x0) && (decide ((x5.get x6) ≤ x1)))
      (.guard ((0 : Int) ≤ x2 ∧ x2 < ((Sl.len (.waits x8.Waits) : Nat) : Int))
      (.guard ((0 : Int) ≤ x6 ∧ (x6 : Int) < 2)
      (.leaf (.inl (x0, x1, x2, x3, x4, x5, IntKind.i64.wrap (x6 + 1), x7, { (x8 : Stake) with Waits := x8.Waits.set x2.toNat ({ ((x8.Waits.getD x2.toNat default) : Wait) with h0 := if x6 = 0 then 0 else (x8.Waits.getD x2.toNat default).h0, h1 := if x6 = 1 then 0 else (x8.Waits.getD x2.toNat default).h1 }) })))))
      (.leaf (.inl (x0, x1, x2, x3, x4, x5, IntKind.i64.wrap (x6 + 1), x7, x8)))))
    (.leaf (.inr (x0, x1, x3, x4, x7, x8))))
noncomputable def sh_ref_Release_l1 (x0 : Int) (x1 : Int) (x2 : Int) (x3 : Int) (x4 : Int) (x5 : (A2 Int)) (x6 : Int) (x7 : Stake) (x8 : Stake) : Option (Int × Int × Int × Int × Stake × Stake) := iter (fun s : Int × Int × Int × Int × Int × (A2 Int) × Int × Stake × Stake => (T_ref_Release_l1 s.1 s.2.1 s.2.2.1 s.2.2.2.1 s.2.2.2.2.1 s.2.2.2.2.2.1 s.2.2.2.2.2.2.1 s.2.2.2.2.2.2.2.1 s.2.2.2.2.2.2.2.2).run) (x0, x1, x2, x3, x4, x5, x6, x7, x8)
noncomputable def A_ref_Release_l1 : Ann := ⟨[], [], [], live_ref_Release, []⟩
noncomputable def q_ref_Release_l1 : LQ (Int × Int × Int × Int × Int × (A2 Int) × Int × Stake × Stake) := (LQ.map (LQ.seq (Par.q intP) (LQ.seq (Par.q intP) (LQ.skip (LQ.const (.ptr 0 0)) (LQ.skip (LQ.const (.ptr 1 0)) (LQ.seq (Par.q intP) (LQ.skip (LQ.const (.own 2)) (LQ.seq (Par.q intP) (LQ.seq (Par.q intP) (LQ.seq (Par.q (Par.ofLP (a2L (LP.one intP)))) (LQ.seq (Par.q intP) (LQ.seq (LP.q bankL) (LQ.seq (LP.q validatorsL) (LQ.seq (LP.q (a4L (a6L (LP.one intP)))) (LQ.skip (LQ.const (.own 3)) (LQ.seq (Par.q intP) (LQ.seq (LP.q bankL) (LQ.seq (LP.q validatorsL) (LQ.seq (LP.q (a4L (a6L (LP.one intP)))) (LQ.skip (LQ.const (.own 2)) (LQ.seq (Par.q intP) (LQ.seq (Par.q waitsP) (Par.q waitsP)))))))))))))))))))))) (fun x : Int × Int × Int × Int × Int × (A2 Int) × Int × Bank × Validators × (A4 (A6 Int)) × Int × Bank × Validators × (A4 (A6 Int)) × Int × (List Wait) × (List Wait) => ((x.1, x.2.1, x.2.2.1, x.2.2.2.1, x.2.2.2.2.1, x.2.2.2.2.2.1, x.2.2.2.2.2.2.1, (⟨x.2.2.2.2.2.2.2.1, x.2.2.2.2.2.2.2.2.1, x.2.2.2.2.2.2.2.2.2.1, x.2.2.2.2.2.2.2.2.2.2.2.2.2.2.2.2, x.2.2.2.2.2.2.2.2.2.2.1⟩ : Stake), (⟨x.2.2.2.2.2.2.2.2.2.2.2.1, x.2.2.2.2.2.2.2.2.2.2.2.2.1, x.2.2.2.2.2.2.2.2.2.2.2.2.2.1, x.2.2.2.2.2.2.2.2.2.2.2.2.2.2.2.1, x.2.2.2.2.2.2.2.2.2.2.2.2.2.2.1⟩ : Stake)) : Int × Int × Int × Int × Int × (A2 Int) × Int × Stake × Stake)) (fun y => (y.1, y.2.1, y.2.2.1, y.2.2.2.1, y.2.2.2.2.1, y.2.2.2.2.2.1, y.2.2.2.2.2.2.1, y.2.2.2.2.2.2.2.1.Bank, y.2.2.2.2.2.2.2.1.Validators, y.2.2.2.2.2.2.2.1.Shares, y.2.2.2.2.2.2.2.1.Next, y.2.2.2.2.2.2.2.2.Bank, y.2.2.2.2.2.2.2.2.Validators, y.2.2.2.2.2.2.2.2.Shares, y.2.2.2.2.2.2.2.2.Next, y.2.2.2.2.2.2.2.2.Waits, y.2.2.2.2.2.2.2.1.Waits)) (fun _ => rfl))
noncomputable def p_ref_Release_l1 : Pat := ⟨[1, 2, 6, 7, 8, 15, 16, 17, 23, 24], [.nilcell 6 61 51 (.waits []), .nilcell 7 61 51 (.waits []), .nilown 15 51 (.waits [])]⟩
noncomputable def s_ref_Release_l1 : List BS := [.cells 32 63, .cells 32 63, .rows 51, .rows 51]
noncomputable def q_ref_Release_l1_e0 : LQ (Int × Int × Int × Int × Stake × Stake) := (LQ.map (LQ.seq (Par.q intP) (LQ.seq (Par.q intP) (LQ.skip (LQ.const (.ptr 0 0)) (LQ.skip (LQ.const (.ptr 1 0)) (LQ.skip (LQ.const (.own 2)) (LQ.seq (Par.q intP) (LQ.seq (Par.q intP) (LQ.seq (LP.q bankL) (LQ.seq (LP.q validatorsL) (LQ.seq (LP.q (a4L (a6L (LP.one intP)))) (LQ.skip (LQ.const (.own 3)) (LQ.seq (Par.q intP) (LQ.seq (LP.q bankL) (LQ.seq (LP.q validatorsL) (LQ.seq (LP.q (a4L (a6L (LP.one intP)))) (LQ.skip (LQ.const (.own 2)) (LQ.seq (Par.q intP) (LQ.seq (Par.q waitsP) (Par.q waitsP))))))))))))))))))) (fun x : Int × Int × Int × Int × Bank × Validators × (A4 (A6 Int)) × Int × Bank × Validators × (A4 (A6 Int)) × Int × (List Wait) × (List Wait) => ((x.1, x.2.1, x.2.2.1, x.2.2.2.1, (⟨x.2.2.2.2.1, x.2.2.2.2.2.1, x.2.2.2.2.2.2.1, x.2.2.2.2.2.2.2.2.2.2.2.2.2, x.2.2.2.2.2.2.2.1⟩ : Stake), (⟨x.2.2.2.2.2.2.2.2.1, x.2.2.2.2.2.2.2.2.2.1, x.2.2.2.2.2.2.2.2.2.2.1, x.2.2.2.2.2.2.2.2.2.2.2.2.1, x.2.2.2.2.2.2.2.2.2.2.2.1⟩ : Stake)) : Int × Int × Int × Int × Stake × Stake)) (fun y => (y.1, y.2.1, y.2.2.1, y.2.2.2.1, y.2.2.2.2.1.Bank, y.2.2.2.2.1.Validators, y.2.2.2.2.1.Shares, y.2.2.2.2.1.Next, y.2.2.2.2.2.Bank, y.2.2.2.2.2.Validators, y.2.2.2.2.2.Shares, y.2.2.2.2.2.Next, y.2.2.2.2.2.Waits, y.2.2.2.2.1.Waits)) (fun _ => rfl))
noncomputable def p_ref_Release_l1_e0 : Pat := ⟨[1, 2, 6, 7, 15, 16, 17], [.nilcell 6 61 51 (.waits []), .nilcell 7 61 51 (.waits []), .nilown 15 51 (.waits [])]⟩
noncomputable def s_ref_Release_l1_e0 : List BS := [.cells 32 63, .cells 32 63, .rows 51, .rows 51]
noncomputable def L_ref_Release_l1 : St → Option LR := pieceL q_ref_Release_l1 46 0 p_ref_Release_l1 s_ref_Release_l1 (fun o => LR.one o (fun r => (.exit 2, stP q_ref_Release_l1_e0 46 7 p_ref_Release_l1_e0 s_ref_Release_l1_e0 r))) (fun a => iter (fun s : Int × Int × Int × Int × Int × (A2 Int) × Int × Stake × Stake => (T_ref_Release_l1 s.1 s.2.1 s.2.2.1 s.2.2.2.1 s.2.2.2.2.1 s.2.2.2.2.2.1 s.2.2.2.2.2.2.1 s.2.2.2.2.2.2.2.1 s.2.2.2.2.2.2.2.2).run) a)
noncomputable def E_ref_Release_l1 : Exit → Option (End ((Int × Int × Int × Int × Int × (A2 Int) × Int × Stake × Stake) ⊕ (Int × Int × Int × Int × Stake × Stake)))
  | .normal => some ⟨_, q_ref_Release_l1, p_ref_Release_l1, s_ref_Release_l1, fun b => .inl b⟩
  | .exit 2 => some ⟨_, q_ref_Release_l1_e0, p_ref_Release_l1_e0, s_ref_Release_l1_e0, fun b => .inr b⟩
  | _ => none
noncomputable def O_ref_Release_l1 : ((Int × Int × Int × Int × Int × (A2 Int) × Int × Stake × Stake) ⊕ (Int × Int × Int × Int × Stake × Stake)) → Exit × St
  | .inl b => (.normal, stP q_ref_Release_l1 46 7 p_ref_Release_l1 s_ref_Release_l1 b)
  | .inr b => (.exit 2, stP q_ref_Release_l1_e0 46 7 p_ref_Release_l1_e0 s_ref_Release_l1_e0 b)
theorem lok_ref_Release_l1 : PieceOk (Y_ref_Release).env 0 (sub C_ref_Release [0, 1, 1, 0, 0, 1, 1, 0, 0, 1, 0, 1, 1]) L_ref_Release_l1 :=
  loop_ok (Y := Y_ref_Release) (A := A_ref_Release_l1) hY_ref_Release Facts.mix (root := C_ref_Release) (L := 0) trivial (π := [0, 1, 1, 0, 0, 1, 1, 0, 0, 1, 0, 1, 1]) (c := loopB (sub C_ref_Release [0, 1, 1, 0, 0, 1, 1, 0, 0, 1, 0, 1, 1])) (by kernel_rfl) q_ref_Release_l1 46 7 p_ref_Release_l1 s_ref_Release_l1 E_ref_Release_l1 (fun s => T_ref_Release_l1 s.1 s.2.1 s.2.2.1 s.2.2.2.1 s.2.2.2.2.1 s.2.2.2.2.2.1 s.2.2.2.2.2.2.1 s.2.2.2.2.2.2.2.1 s.2.2.2.2.2.2.2.2) O_ref_Release_l1 (by intro e d h b; unfold E_ref_Release_l1 at h; split at h <;> first | (cases h; rfl) | cases h) (fun _ => rfl) (by intro r; exact (fun h => by cases h)) (fun o => LR.one o (fun r => (.exit 2, stP q_ref_Release_l1_e0 46 7 p_ref_Release_l1_e0 s_ref_Release_l1_e0 r))) (by intro o Q h; obtain ⟨v, h1, h2⟩ := h; exact ⟨v, h1, h2⟩)
    (by rintro ⟨x0, x1, x2, x3, x4, x5, x6, x7, x8⟩; kernel_rfl)
noncomputable def T_ref_Release_l2 (x0 : Int) (x1 : Int) (x2 : Int) (x3 : Int) (x4 : Stake) (x5 : Stake) : Tr ((Int × Int × Int × Int × Stake × Stake) ⊕ (Stake × Stake)) :=
  (.ite (decide (x3 < x2))
    (.guard ((0 : Int) ≤ x3 ∧ x3 < ((Sl.len (.waits x5.Waits) : Nat) : Int))
    (.bind (sh_ref_Release_l1 x0 x1 x3 x2 x3 (⟨(x5.Waits.getD x3.toNat default).h0, (x5.Waits.getD x3.toNat default).h1⟩ : (A2 Int)) 0 x4 x5) fun v2 =>
    (.leaf (.inl (v2.1, v2.2.1, v2.2.2.1, IntKind.i64.wrap (v2.2.2.2.1 + 1), v2.2.2.2.2.1, v2.2.2.2.2.2)))))
    (.leaf (.inr (x4, (⟨x5.Bank, x5.Validators, x5.Shares, x5.Waits, x5.Next⟩ : Stake)))))
noncomputable def sh_ref_Release_l2 (x0 : Int) (x1 : Int) (x2 : Int) (x3 : Int) (x4 : Stake) (x5 : Stake) : Option (Stake × Stake) := iter (fun s : Int × Int × Int × Int × Stake × Stake => (T_ref_Release_l2 s.1 s.2.1 s.2.2.1 s.2.2.2.1 s.2.2.2.2.1 s.2.2.2.2.2).run) (x0, x1, x2, x3, x4, x5)
noncomputable def A_ref_Release_l2 : Ann := ⟨[([0, 1, 1, 0, 0, 1, 1, 0, 0, 1, 0, 1, 1], L_ref_Release_l1)], [], [], live_ref_Release, []⟩
noncomputable def q_ref_Release_l2 : LQ (Int × Int × Int × Int × Stake × Stake) := (LQ.map (LQ.seq (Par.q intP) (LQ.seq (Par.q intP) (LQ.skip (LQ.const (.ptr 0 0)) (LQ.skip (LQ.const (.ptr 1 0)) (LQ.skip (LQ.const (.own 2)) (LQ.seq (Par.q intP) (LQ.seq (Par.q intP) (LQ.seq (LP.q bankL) (LQ.seq (LP.q validatorsL) (LQ.seq (LP.q (a4L (a6L (LP.one intP)))) (LQ.skip (LQ.const (.own 3)) (LQ.seq (Par.q intP) (LQ.seq (LP.q bankL) (LQ.seq (LP.q validatorsL) (LQ.seq (LP.q (a4L (a6L (LP.one intP)))) (LQ.skip (LQ.const (.own 2)) (LQ.seq (Par.q intP) (LQ.seq (Par.q waitsP) (Par.q waitsP))))))))))))))))))) (fun x : Int × Int × Int × Int × Bank × Validators × (A4 (A6 Int)) × Int × Bank × Validators × (A4 (A6 Int)) × Int × (List Wait) × (List Wait) => ((x.1, x.2.1, x.2.2.1, x.2.2.2.1, (⟨x.2.2.2.2.1, x.2.2.2.2.2.1, x.2.2.2.2.2.2.1, x.2.2.2.2.2.2.2.2.2.2.2.2.2, x.2.2.2.2.2.2.2.1⟩ : Stake), (⟨x.2.2.2.2.2.2.2.2.1, x.2.2.2.2.2.2.2.2.2.1, x.2.2.2.2.2.2.2.2.2.2.1, x.2.2.2.2.2.2.2.2.2.2.2.2.1, x.2.2.2.2.2.2.2.2.2.2.2.1⟩ : Stake)) : Int × Int × Int × Int × Stake × Stake)) (fun y => (y.1, y.2.1, y.2.2.1, y.2.2.2.1, y.2.2.2.2.1.Bank, y.2.2.2.2.1.Validators, y.2.2.2.2.1.Shares, y.2.2.2.2.1.Next, y.2.2.2.2.2.Bank, y.2.2.2.2.2.Validators, y.2.2.2.2.2.Shares, y.2.2.2.2.2.Next, y.2.2.2.2.2.Waits, y.2.2.2.2.1.Waits)) (fun _ => rfl))
noncomputable def p_ref_Release_l2 : Pat := ⟨[1, 2, 6, 7, 15, 16, 17], [.nilcell 6 61 51 (.waits []), .nilcell 7 61 51 (.waits []), .nilown 15 51 (.waits [])]⟩
noncomputable def s_ref_Release_l2 : List BS := [.cells 32 63, .cells 32 63, .rows 51, .rows 51]
noncomputable def q_ref_Release_l2_e0 : LQ (Stake × Stake) := (LQ.map (LQ.skip (LQ.const (.ptr 0 0)) (LQ.skip (LQ.const (.ptr 1 0)) (LQ.seq (LP.q bankL) (LQ.seq (LP.q validatorsL) (LQ.seq (LP.q (a4L (a6L (LP.one intP)))) (LQ.skip (LQ.const (.own 2)) (LQ.seq (Par.q intP) (LQ.seq (LP.q bankL) (LQ.seq (LP.q validatorsL) (LQ.seq (LP.q (a4L (a6L (LP.one intP)))) (LQ.skip (LQ.const (.own 3)) (LQ.seq (Par.q intP) (LQ.seq (Par.q waitsP) (Par.q waitsP)))))))))))))) (fun x : Bank × Validators × (A4 (A6 Int)) × Int × Bank × Validators × (A4 (A6 Int)) × Int × (List Wait) × (List Wait) => (((⟨x.1, x.2.1, x.2.2.1, x.2.2.2.2.2.2.2.2.1, x.2.2.2.1⟩ : Stake), (⟨x.2.2.2.2.1, x.2.2.2.2.2.1, x.2.2.2.2.2.2.1, x.2.2.2.2.2.2.2.2.2, x.2.2.2.2.2.2.2.1⟩ : Stake)) : Stake × Stake)) (fun y => (y.1.Bank, y.1.Validators, y.1.Shares, y.1.Next, y.2.Bank, y.2.Validators, y.2.Shares, y.2.Next, y.1.Waits, y.2.Waits)) (fun _ => rfl))
noncomputable def p_ref_Release_l2_e0 : Pat := ⟨[6, 7], [.nilcell 6 61 51 (.waits []), .nilcell 7 61 51 (.waits [])]⟩
noncomputable def s_ref_Release_l2_e0 : List BS := [.cells 32 63, .cells 32 63, .rows 51, .rows 51]
noncomputable def L_ref_Release_l2 : St → Option LR := pieceL q_ref_Release_l2 46 0 p_ref_Release_l2 s_ref_Release_l2 (fun o => LR.one o (fun r => (.exit 0, stP q_ref_Release_l2_e0 46 7 p_ref_Release_l2_e0 s_ref_Release_l2_e0 r))) (fun a => iter (fun s : Int × Int × Int × Int × Stake × Stake => (T_ref_Release_l2 s.1 s.2.1 s.2.2.1 s.2.2.2.1 s.2.2.2.2.1 s.2.2.2.2.2).run) a)
noncomputable def E_ref_Release_l2 : Exit → Option (End ((Int × Int × Int × Int × Stake × Stake) ⊕ (Stake × Stake)))
  | .normal => some ⟨_, q_ref_Release_l2, p_ref_Release_l2, s_ref_Release_l2, fun b => .inl b⟩
  | .exit 0 => some ⟨_, q_ref_Release_l2_e0, p_ref_Release_l2_e0, s_ref_Release_l2_e0, fun b => .inr b⟩
  | _ => none
noncomputable def O_ref_Release_l2 : ((Int × Int × Int × Int × Stake × Stake) ⊕ (Stake × Stake)) → Exit × St
  | .inl b => (.normal, stP q_ref_Release_l2 46 7 p_ref_Release_l2 s_ref_Release_l2 b)
  | .inr b => (.exit 0, stP q_ref_Release_l2_e0 46 7 p_ref_Release_l2_e0 s_ref_Release_l2_e0 b)
theorem lok_ref_Release_l2 : PieceOk (Y_ref_Release).env 0 (sub C_ref_Release [0, 1, 0, 1, 1]) L_ref_Release_l2 :=
  loop_ok (Y := Y_ref_Release) (A := A_ref_Release_l2) hY_ref_Release Facts.mix (root := C_ref_Release) (L := 0) ⟨lok_ref_Release_l1, trivial⟩ (π := [0, 1, 0, 1, 1]) (c := loopB (sub C_ref_Release [0, 1, 0, 1, 1])) (by kernel_rfl) q_ref_Release_l2 46 7 p_ref_Release_l2 s_ref_Release_l2 E_ref_Release_l2 (fun s => T_ref_Release_l2 s.1 s.2.1 s.2.2.1 s.2.2.2.1 s.2.2.2.2.1 s.2.2.2.2.2) O_ref_Release_l2 (by intro e d h b; unfold E_ref_Release_l2 at h; split at h <;> first | (cases h; rfl) | cases h) (fun _ => rfl) (by intro r; exact (fun h => by cases h)) (fun o => LR.one o (fun r => (.exit 0, stP q_ref_Release_l2_e0 46 7 p_ref_Release_l2_e0 s_ref_Release_l2_e0 r))) (by intro o Q h; obtain ⟨v, h1, h2⟩ := h; exact ⟨v, h1, h2⟩)
    (by rintro ⟨x0, x1, x2, x3, x4, x5⟩; kernel_rfl)
noncomputable def A_ref_Release : Ann := ⟨[([0, 1, 0, 1, 1], L_ref_Release_l2)], [], [], live_ref_Release, []⟩
noncomputable def T_ref_Release (a0 : Stake) (a1 : Int) (a2 : Int) : Tr (Stake) :=
  (.bind (sh_ref_CopyStake_o a0) fun v1 =>
  (.bind (sh_ref_Release_l2 a1 a2 ((v1.Waits.length : Nat) : Int) 0 (⟨(⟨(⟨0, 0, 0, 0⟩ : (A4 Int)), 0, 0, 0⟩ : Bank), (⟨(⟨0, 0, 0, 0, 0, 0⟩ : (A6 Int)), (⟨0, 0, 0, 0, 0, 0⟩ : (A6 Int)), (⟨0, 0, 0, 0, 0, 0⟩ : (A6 Int)), (⟨false, false, false, false, false, false⟩ : (A6 Bool)), (⟨false, false, false, false, false, false⟩ : (A6 Bool))⟩ : Validators), (⟨(⟨0, 0, 0, 0, 0, 0⟩ : (A6 Int)), (⟨0, 0, 0, 0, 0, 0⟩ : (A6 Int)), (⟨0, 0, 0, 0, 0, 0⟩ : (A6 Int)), (⟨0, 0, 0, 0, 0, 0⟩ : (A6 Int))⟩ : (A4 (A6 Int))), [], 0⟩ : Stake) v1) fun v3 =>
  (.leaf v3.2)))
noncomputable def sh_ref_Release (a0 : Stake) (a1 : Int) (a2 : Int) : Option (Stake) := (T_ref_Release a0 a1 a2).run
noncomputable def qa_ref_Release : LQ (Stake × Int × Int) := (LQ.seq (Par.q (Par.ofLP stakeL)) (LQ.seq (Par.q intP) (Par.q intP)))
noncomputable def qr_ref_Release : LQ (Stake) := (Par.q (Par.ofLP stakeL))
noncomputable def F_ref_Release : SpecT := specF 0 qa_ref_Release 3 [] (fun s => T_ref_Release s.1 s.2.1 s.2.2) default qr_ref_Release 1 []
theorem ok_ref_Release : SpecOk Try.prog 47 (F_ref_Release).spec :=
  specF_ok (Y := Y_ref_Release) (A := A_ref_Release) hY_ref_Release Facts.mix Try.func47 (c := C_ref_Release) (by kernel_rfl) (Lc := 0) ⟨lok_ref_Release_l2, trivial⟩ qa_ref_Release 3 7 [] (fun s => T_ref_Release s.1 s.2.1 s.2.2) default qr_ref_Release 1 [] [.pubB 6] (by decide) (by kernel_rfl) (by rfl) (by decide) (by decide) (by rfl)
    (by rintro ⟨a0, a1, a2⟩; kernel_rfl)

noncomputable def C_ref_PayAll : Code := Try.f44.body.getD .skip
noncomputable def live_ref_PayAll : List (List Nat) := [[1, 2, 4], [1, 2, 4, 13], [4, 5, 6], [1, 2, 4, 7], [1, 2, 4, 7], [1, 2, 4, 7, 8], [1, 4, 7, 8, 19, 20, 21], [1, 4, 7, 8, 19, 20, 21, 22], [1, 4, 7, 8, 10, 19, 20, 21], [1, 4, 7, 8, 10, 19, 20, 21, 40], [1, 4, 7, 8, 10, 19, 20, 21], [1, 4, 7, 8, 19, 20, 21], [1, 4, 7, 8, 19, 20, 21], [1, 4, 7, 8, 19, 20, 21], [4, 5, 6]]
noncomputable def Y_ref_PayAll : EnvT := ⟨Try.prog, lookT [(20, F_ref_GoodStake), (15, F_ref_CopyStake), (75, F_ref_Pay)]⟩
theorem hY_ref_PayAll : (Y_ref_PayAll).Ok := lookT_ok ⟨ok_ref_GoodStake, ok_ref_CopyStake, ok_ref_Pay, trivial⟩
noncomputable def T_ref_PayAll_l1 (x0 : Int) (x1 : (List Wait)) (x2 : Int) (x3 : Int) (x4 : Stake) (x5 : Stake) (x6 : (List Int)) : Tr ((Int × (List Wait) × Int × Int × Stake × Stake × (List Int)) ⊕ (Stake × Stake × (List Int))) :=
  (.ite (decide (x3 < x2))
    (.guard ((0 : Int) ≤ x3 ∧ x3 < ((Sl.len (.waits x1) : Nat) : Int))
    (.ite (((decide (((x1.getD x3.toNat default).Due) ≤ x0)) && (((x1.getD x3.toNat default).h0) == 0)) && (((x1.getD x3.toNat default).h1) == 0))
      (.bind (sh_ref_Pay x5.Bank ((x1.getD x3.toNat default).D) ((x1.getD x3.toNat default).Amount)) fun v3 =>
      (.guard ((Sl.len (.ints x6) + Sl.len (.ints [(x1.getD x3.toNat default).Number])) * 8 ≤ 140737488355328)
      (.leaf (.inl (x0, x1, x2, IntKind.i64.wrap (x3 + 1), x4, { (x5 : Stake) with Bank := v3.1 }, x6 ++ [(x1.getD x3.toNat default).Number])))))
      (.guard ((Sl.len (.waits x5.Waits) + Sl.len (.waits [(x1.getD x3.toNat default)])) * 64 ≤ 140737488355328)
      (.leaf (.inl (x0, x1, x2, IntKind.i64.wrap (x3 + 1), x4, { (x5 : Stake) with Waits := x5.Waits ++ [(x1.getD x3.toNat default)] }, x6))))))
    (.leaf (.inr (x4, x5, x6))))
noncomputable def sh_ref_PayAll_l1 (x0 : Int) (x1 : (List Wait)) (x2 : Int) (x3 : Int) (x4 : Stake) (x5 : Stake) (x6 : (List Int)) : Option (Stake × Stake × (List Int)) := iter (fun s : Int × (List Wait) × Int × Int × Stake × Stake × (List Int) => (T_ref_PayAll_l1 s.1 s.2.1 s.2.2.1 s.2.2.2.1 s.2.2.2.2.1 s.2.2.2.2.2.1 s.2.2.2.2.2.2).run) (x0, x1, x2, x3, x4, x5, x6)
noncomputable def A_ref_PayAll_l1 : Ann := ⟨[], [], [], live_ref_PayAll, []⟩
noncomputable def q_ref_PayAll_l1 : LQ (Int × (List Wait) × Int × Int × Stake × Stake × (List Int)) := (LQ.map (LQ.seq (Par.q intP) (LQ.skip (LQ.const (.ptr 0 0)) (LQ.skip (LQ.const (.ptr 1 0)) (LQ.skip (LQ.const (.own 2)) (LQ.seq (Par.q waitsP) (LQ.seq (Par.q intP) (LQ.seq (Par.q intP) (LQ.seq (LP.q bankL) (LQ.seq (LP.q validatorsL) (LQ.seq (LP.q (a4L (a6L (LP.one intP)))) (LQ.skip (LQ.const (.own 3)) (LQ.seq (Par.q intP) (LQ.seq (LP.q bankL) (LQ.seq (LP.q validatorsL) (LQ.seq (LP.q (a4L (a6L (LP.one intP)))) (LQ.skip (LQ.const (.own 4)) (LQ.seq (Par.q intP) (LQ.seq (Par.q intsP) (LQ.seq (Par.q waitsP) (Par.q waitsP)))))))))))))))))))) (fun x : Int × (List Wait) × Int × Int × Bank × Validators × (A4 (A6 Int)) × Int × Bank × Validators × (A4 (A6 Int)) × Int × (List Int) × (List Wait) × (List Wait) => ((x.1, x.2.1, x.2.2.1, x.2.2.2.1, (⟨x.2.2.2.2.1, x.2.2.2.2.2.1, x.2.2.2.2.2.2.1, x.2.2.2.2.2.2.2.2.2.2.2.2.2.1, x.2.2.2.2.2.2.2.1⟩ : Stake), (⟨x.2.2.2.2.2.2.2.2.1, x.2.2.2.2.2.2.2.2.2.1, x.2.2.2.2.2.2.2.2.2.2.1, x.2.2.2.2.2.2.2.2.2.2.2.2.2.2, x.2.2.2.2.2.2.2.2.2.2.2.1⟩ : Stake), x.2.2.2.2.2.2.2.2.2.2.2.2.1) : Int × (List Wait) × Int × Int × Stake × Stake × (List Int))) (fun y => (y.1, y.2.1, y.2.2.1, y.2.2.2.1, y.2.2.2.2.1.Bank, y.2.2.2.2.1.Validators, y.2.2.2.2.1.Shares, y.2.2.2.2.1.Next, y.2.2.2.2.2.1.Bank, y.2.2.2.2.2.1.Validators, y.2.2.2.2.2.1.Shares, y.2.2.2.2.2.1.Next, y.2.2.2.2.2.2, y.2.2.2.2.1.Waits, y.2.2.2.2.2.1.Waits)) (fun _ => rfl))
noncomputable def p_ref_PayAll_l1 : Pat := ⟨[1, 4, 7, 8, 19, 20, 21], [.nilcell 4 61 51 (.waits []), .nilcell 7 61 51 (.waits []), .nilown 8 3 (.ints []), .pub 19, .nilsl 19 (.waits [])]⟩
noncomputable def s_ref_PayAll_l1 : List BS := [.cells 32 63, .cells 32 63, .rows 3, .rows 51, .rows 51]
noncomputable def q_ref_PayAll_l1_e0 : LQ (Stake × Stake × (List Int)) := (LQ.map (LQ.skip (LQ.const (.ptr 0 0)) (LQ.skip (LQ.const (.ptr 1 0)) (LQ.skip (LQ.const (.own 2)) (LQ.seq (LP.q bankL) (LQ.seq (LP.q validatorsL) (LQ.seq (LP.q (a4L (a6L (LP.one intP)))) (LQ.skip (LQ.const (.own 3)) (LQ.seq (Par.q intP) (LQ.seq (LP.q bankL) (LQ.seq (LP.q validatorsL) (LQ.seq (LP.q (a4L (a6L (LP.one intP)))) (LQ.skip (LQ.const (.own 4)) (LQ.seq (Par.q intP) (LQ.seq (Par.q intsP) (LQ.seq (Par.q waitsP) (Par.q waitsP)))))))))))))))) (fun x : Bank × Validators × (A4 (A6 Int)) × Int × Bank × Validators × (A4 (A6 Int)) × Int × (List Int) × (List Wait) × (List Wait) => (((⟨x.1, x.2.1, x.2.2.1, x.2.2.2.2.2.2.2.2.2.1, x.2.2.2.1⟩ : Stake), (⟨x.2.2.2.2.1, x.2.2.2.2.2.1, x.2.2.2.2.2.2.1, x.2.2.2.2.2.2.2.2.2.2, x.2.2.2.2.2.2.2.1⟩ : Stake), x.2.2.2.2.2.2.2.2.1) : Stake × Stake × (List Int))) (fun y => (y.1.Bank, y.1.Validators, y.1.Shares, y.1.Next, y.2.1.Bank, y.2.1.Validators, y.2.1.Shares, y.2.1.Next, y.2.2, y.1.Waits, y.2.1.Waits)) (fun _ => rfl))
noncomputable def p_ref_PayAll_l1_e0 : Pat := ⟨[4, 7, 8], [.nilcell 4 61 51 (.waits []), .nilcell 7 61 51 (.waits []), .nilown 8 3 (.ints [])]⟩
noncomputable def s_ref_PayAll_l1_e0 : List BS := [.cells 32 63, .cells 32 63, .rows 3, .rows 51, .rows 51]
noncomputable def L_ref_PayAll_l1 : St → Option LR := pieceL q_ref_PayAll_l1 66 0 p_ref_PayAll_l1 s_ref_PayAll_l1 (fun o => LR.one o (fun r => (.exit 0, stP q_ref_PayAll_l1_e0 66 10 p_ref_PayAll_l1_e0 s_ref_PayAll_l1_e0 r))) (fun a => iter (fun s : Int × (List Wait) × Int × Int × Stake × Stake × (List Int) => (T_ref_PayAll_l1 s.1 s.2.1 s.2.2.1 s.2.2.2.1 s.2.2.2.2.1 s.2.2.2.2.2.1 s.2.2.2.2.2.2).run) a)
noncomputable def E_ref_PayAll_l1 : Exit → Option (End ((Int × (List Wait) × Int × Int × Stake × Stake × (List Int)) ⊕ (Stake × Stake × (List Int))))
  | .normal => some ⟨_, q_ref_PayAll_l1, p_ref_PayAll_l1, s_ref_PayAll_l1, fun b => .inl b⟩
  | .exit 0 => some ⟨_, q_ref_PayAll_l1_e0, p_ref_PayAll_l1_e0, s_ref_PayAll_l1_e0, fun b => .inr b⟩
  | _ => none
noncomputable def O_ref_PayAll_l1 : ((Int × (List Wait) × Int × Int × Stake × Stake × (List Int)) ⊕ (Stake × Stake × (List Int))) → Exit × St
  | .inl b => (.normal, stP q_ref_PayAll_l1 66 10 p_ref_PayAll_l1 s_ref_PayAll_l1 b)
  | .inr b => (.exit 0, stP q_ref_PayAll_l1_e0 66 10 p_ref_PayAll_l1_e0 s_ref_PayAll_l1_e0 b)
theorem lok_ref_PayAll_l1 : PieceOk (Y_ref_PayAll).env 0 (sub C_ref_PayAll [0, 1, 0, 1, 1, 1, 1, 1]) L_ref_PayAll_l1 :=
  loop_ok (Y := Y_ref_PayAll) (A := A_ref_PayAll_l1) hY_ref_PayAll Facts.mix (root := C_ref_PayAll) (L := 0) trivial (π := [0, 1, 0, 1, 1, 1, 1, 1]) (c := loopB (sub C_ref_PayAll [0, 1, 0, 1, 1, 1, 1, 1])) (by kernel_rfl) q_ref_PayAll_l1 66 10 p_ref_PayAll_l1 s_ref_PayAll_l1 E_ref_PayAll_l1 (fun s => T_ref_PayAll_l1 s.1 s.2.1 s.2.2.1 s.2.2.2.1 s.2.2.2.2.1 s.2.2.2.2.2.1 s.2.2.2.2.2.2) O_ref_PayAll_l1 (by intro e d h b; unfold E_ref_PayAll_l1 at h; split at h <;> first | (cases h; rfl) | cases h) (fun _ => rfl) (by intro r; exact (fun h => by cases h)) (fun o => LR.one o (fun r => (.exit 0, stP q_ref_PayAll_l1_e0 66 10 p_ref_PayAll_l1_e0 s_ref_PayAll_l1_e0 r))) (by intro o Q h; obtain ⟨v, h1, h2⟩ := h; exact ⟨v, h1, h2⟩)
    (by rintro ⟨x0, x1, x2, x3, x4, x5, x6⟩; kernel_rfl)
noncomputable def A_ref_PayAll : Ann := ⟨[([0, 1, 0, 1, 1, 1, 1, 1], L_ref_PayAll_l1)], [], [], live_ref_PayAll, []⟩
noncomputable def T_ref_PayAll (a0 : Stake) (a1 : Int) : Tr (Stake × (List Int) × Int) :=
  (.bind (sh_ref_GoodStake a0) fun v1 =>
  (.ite (!v1)
    (.leaf (a0, [], 2))
    (.bind (sh_ref_CopyStake a0) fun v2 =>
    (.bind (sh_ref_PayAll_l1 a1 a0.Waits ((a0.Waits.length : Nat) : Int) 0 (⟨(⟨(⟨0, 0, 0, 0⟩ : (A4 Int)), 0, 0, 0⟩ : Bank), (⟨(⟨0, 0, 0, 0, 0, 0⟩ : (A6 Int)), (⟨0, 0, 0, 0, 0, 0⟩ : (A6 Int)), (⟨0, 0, 0, 0, 0, 0⟩ : (A6 Int)), (⟨false, false, false, false, false, false⟩ : (A6 Bool)), (⟨false, false, false, false, false, false⟩ : (A6 Bool))⟩ : Validators), (⟨(⟨0, 0, 0, 0, 0, 0⟩ : (A6 Int)), (⟨0, 0, 0, 0, 0, 0⟩ : (A6 Int)), (⟨0, 0, 0, 0, 0, 0⟩ : (A6 Int)), (⟨0, 0, 0, 0, 0, 0⟩ : (A6 Int))⟩ : (A4 (A6 Int))), [], 0⟩ : Stake) ({ (v2 : Stake) with Waits := [] }) []) fun v4 =>
    (.leaf (v4.2.1, v4.2.2, 0))))))
noncomputable def sh_ref_PayAll (a0 : Stake) (a1 : Int) : Option (Stake × (List Int) × Int) := (T_ref_PayAll a0 a1).run
noncomputable def qa_ref_PayAll : LQ (Stake × Int) := (LQ.seq (Par.q (Par.ofLP stakeL)) (Par.q intP))
noncomputable def qr_ref_PayAll : LQ (Stake × (List Int) × Int) := (LQ.seq (Par.q (Par.ofLP stakeL)) (LQ.seq (Par.q intsP) (Par.q intP)))
noncomputable def F_ref_PayAll : SpecT := specF 0 qa_ref_PayAll 2 [] (fun s => T_ref_PayAll s.1 s.2) default qr_ref_PayAll 3 []
theorem ok_ref_PayAll : SpecOk Try.prog 44 (F_ref_PayAll).spec :=
  specF_ok (Y := Y_ref_PayAll) (A := A_ref_PayAll) hY_ref_PayAll Facts.mix Try.func44 (c := C_ref_PayAll) (by kernel_rfl) (Lc := 0) ⟨lok_ref_PayAll_l1, trivial⟩ qa_ref_PayAll 2 10 [] (fun s => T_ref_PayAll s.1 s.2) default qr_ref_PayAll 3 [] [.pubB 4, .pub 5] (by decide) (by kernel_rfl) (by rfl) (by decide) (by decide) (by rfl)
    (by rintro ⟨a0, a1⟩; kernel_rfl)

noncomputable def C_ref_Slash : Code := Try.f49.body.getD .skip
noncomputable def live_ref_Slash : List (List Nat) := [[1, 2, 3, 4, 8], [1, 2, 3, 4, 8, 11], [1, 2, 3, 4, 8, 11, 24], [8, 9, 10], [1, 2, 3, 4, 8, 12, 13], [1, 2, 3, 4, 8, 12, 13, 38], [8, 9, 10], [1, 2, 3, 4, 8, 12, 14], [1, 2, 3, 4, 8, 12, 14, 15], [1, 2, 3, 4, 8, 12, 14, 15, 44, 45, 46], [1, 2, 3, 4, 8, 12, 14, 15, 44, 45, 46, 47], [1, 2, 3, 4, 8, 12, 14, 15, 16, 17, 44, 45, 46], [1, 2, 3, 4, 8, 12, 14, 15, 16, 17, 44, 45, 46, 60], [1, 2, 3, 4, 8, 12, 14, 15, 16, 17, 18, 44, 45, 46], [1, 2, 3, 4, 8, 12, 14, 15, 18, 44, 45, 46], [1, 2, 3, 4, 8, 12, 14, 15, 44, 45, 46], [1, 2, 3, 4, 8, 12, 14, 15, 44, 45, 46], [1, 8, 12, 14, 15], [1, 8, 12, 14, 15], [8, 12, 14, 15], [8, 9, 10]]
noncomputable def Y_ref_Slash : EnvT := ⟨Try.prog, lookT [(55, F_ref_some), (78, F_ref_Part), (15, F_ref_CopyStake_o), (79, F_ref_Burn)]⟩
theorem hY_ref_Slash : (Y_ref_Slash).Ok := lookT_ok ⟨ok_ref_some, ok_ref_Part, ok_ref_CopyStake_o, ok_ref_Burn, trivial⟩
noncomputable def T_ref_Slash_l1 (x0 : Int) (x1 : Int) (x2 : Int) (x3 : Int) (x4 : Int) (x5 : (List Wait)) (x6 : Int) (x7 : Int) (x8 : Stake) (x9 : Stake) (x10 : Stake) : Tr ((Int × Int × Int × Int × Int × (List Wait) × Int × Int × Stake × Stake × Stake) ⊕ (Int × Int × Int × Stake × Stake × Stake)) :=
  (.ite (decide (x7 < x6))
    (.guard ((0 : Int) ≤ x7 ∧ x7 < ((Sl.len (.waits x5) : Nat) : Int))
    (.ite ((((x5.getD x7.toNat default).V) != x0) || (decide (((x5.getD x7.toNat default).Height) < x1)))
      (.leaf (.inl (x0, x1, x2, x3, x4, x5, x6, IntKind.i64.wrap (x7 + 1), x8, x9, x10)))
      (.bind (sh_ref_Part ((x5.getD x7.toNat default).Amount) x2) fun v4 =>
      (.guard ((0 : Int) ≤ x7 ∧ x7 < ((Sl.len (.waits x10.Waits) : Nat) : Int))
      (.leaf (.inl (x0, x1, x2, x3, IntKind.i64.wrap (x4 + v4.1), x5, x6, IntKind.i64.wrap (x7 + 1), x8, x9, { (x10 : Stake) with Waits := x10.Waits.set x7.toNat ({ ((x10.Waits.getD x7.toNat default) : Wait) with Amount := IntKind.i64.wrap (((x5.getD x7.toNat default).Amount) - v4.1) }) })))))))
    (.leaf (.inr (x0, x3, x4, x8, x9, x10))))
noncomputable def sh_ref_Slash_l1 (x0 : Int) (x1 : Int) (x2 : Int) (x3 : Int) (x4 : Int) (x5 : (List Wait)) (x6 : Int) (x7 : Int) (x8 : Stake) (x9 : Stake) (x10 : Stake) : Option (Int × Int × Int × Stake × Stake × Stake) := iter (fun s : Int × Int × Int × Int × Int × (List Wait) × Int × Int × Stake × Stake × Stake => (T_ref_Slash_l1 s.1 s.2.1 s.2.2.1 s.2.2.2.1 s.2.2.2.2.1 s.2.2.2.2.2.1 s.2.2.2.2.2.2.1 s.2.2.2.2.2.2.2.1 s.2.2.2.2.2.2.2.2.1 s.2.2.2.2.2.2.2.2.2.1 s.2.2.2.2.2.2.2.2.2.2).run) (x0, x1, x2, x3, x4, x5, x6, x7, x8, x9, x10)
noncomputable def A_ref_Slash_l1 : Ann := ⟨[], [], [], live_ref_Slash, []⟩
noncomputable def q_ref_Slash_l1 : LQ (Int × Int × Int × Int × Int × (List Wait) × Int × Int × Stake × Stake × Stake) := (LQ.map (LQ.seq (Par.q intP) (LQ.seq (Par.q intP) (LQ.seq (Par.q intP) (LQ.skip (LQ.const (.ptr 0 0)) (LQ.skip (LQ.const (.ptr 1 0)) (LQ.seq (Par.q intP) (LQ.skip (LQ.const (.ptr 2 0)) (LQ.seq (Par.q intP) (LQ.seq (Par.q waitsP) (LQ.seq (Par.q intP) (LQ.seq (Par.q intP) (LQ.seq (LP.q stakeL) (LQ.seq (LP.q bankL) (LQ.seq (LP.q validatorsL) (LQ.seq (LP.q (a4L (a6L (LP.one intP)))) (LQ.skip (LQ.const (.own 3)) (LQ.seq (Par.q intP) (LQ.seq (LP.q bankL) (LQ.seq (LP.q validatorsL) (LQ.seq (LP.q (a4L (a6L (LP.one intP)))) (LQ.skip (LQ.const (.own 4)) (LQ.seq (Par.q intP) (LQ.seq (Par.q waitsP) (Par.q waitsP)))))))))))))))))))))))) (fun x : Int × Int × Int × Int × Int × (List Wait) × Int × Int × Stake × Bank × Validators × (A4 (A6 Int)) × Int × Bank × Validators × (A4 (A6 Int)) × Int × (List Wait) × (List Wait) => ((x.1, x.2.1, x.2.2.1, x.2.2.2.1, x.2.2.2.2.1, x.2.2.2.2.2.1, x.2.2.2.2.2.2.1, x.2.2.2.2.2.2.2.1, x.2.2.2.2.2.2.2.2.1, (⟨x.2.2.2.2.2.2.2.2.2.1, x.2.2.2.2.2.2.2.2.2.2.1, x.2.2.2.2.2.2.2.2.2.2.2.1, x.2.2.2.2.2.2.2.2.2.2.2.2.2.2.2.2.2.1, x.2.2.2.2.2.2.2.2.2.2.2.2.1⟩ : Stake), (⟨x.2.2.2.2.2.2.2.2.2.2.2.2.2.1, x.2.2.2.2.2.2.2.2.2.2.2.2.2.2.1, x.2.2.2.2.2.2.2.2.2.2.2.2.2.2.2.1, x.2.2.2.2.2.2.2.2.2.2.2.2.2.2.2.2.2.2, x.2.2.2.2.2.2.2.2.2.2.2.2.2.2.2.2.1⟩ : Stake)) : Int × Int × Int × Int × Int × (List Wait) × Int × Int × Stake × Stake × Stake)) (fun y => (y.1, y.2.1, y.2.2.1, y.2.2.2.1, y.2.2.2.2.1, y.2.2.2.2.2.1, y.2.2.2.2.2.2.1, y.2.2.2.2.2.2.2.1, y.2.2.2.2.2.2.2.2.1, y.2.2.2.2.2.2.2.2.2.1.Bank, y.2.2.2.2.2.2.2.2.2.1.Validators, y.2.2.2.2.2.2.2.2.2.1.Shares, y.2.2.2.2.2.2.2.2.2.1.Next, y.2.2.2.2.2.2.2.2.2.2.Bank, y.2.2.2.2.2.2.2.2.2.2.Validators, y.2.2.2.2.2.2.2.2.2.2.Shares, y.2.2.2.2.2.2.2.2.2.2.Next, y.2.2.2.2.2.2.2.2.2.1.Waits, y.2.2.2.2.2.2.2.2.2.2.Waits)) (fun _ => rfl))
noncomputable def p_ref_Slash_l1 : Pat := ⟨[1, 2, 3, 4, 8, 12, 14, 15, 44, 45, 46], [.nilcell 8 61 51 (.waits []), .nilcell 14 61 51 (.waits []), .pub 44, .nilsl 44 (.waits [])]⟩
noncomputable def s_ref_Slash_l1 : List BS := [.cells 32 63, .cells 32 63, .cells 32 63, .rows 51, .rows 51]
noncomputable def q_ref_Slash_l1_e0 : LQ (Int × Int × Int × Stake × Stake × Stake) := (LQ.map (LQ.seq (Par.q intP) (LQ.skip (LQ.const (.ptr 0 0)) (LQ.skip (LQ.const (.ptr 1 0)) (LQ.seq (Par.q intP) (LQ.skip (LQ.const (.ptr 2 0)) (LQ.seq (Par.q intP) (LQ.seq (LP.q stakeL) (LQ.seq (LP.q bankL) (LQ.seq (LP.q validatorsL) (LQ.seq (LP.q (a4L (a6L (LP.one intP)))) (LQ.skip (LQ.const (.own 3)) (LQ.seq (Par.q intP) (LQ.seq (LP.q bankL) (LQ.seq (LP.q validatorsL) (LQ.seq (LP.q (a4L (a6L (LP.one intP)))) (LQ.skip (LQ.const (.own 4)) (LQ.seq (Par.q intP) (LQ.seq (Par.q waitsP) (Par.q waitsP))))))))))))))))))) (fun x : Int × Int × Int × Stake × Bank × Validators × (A4 (A6 Int)) × Int × Bank × Validators × (A4 (A6 Int)) × Int × (List Wait) × (List Wait) => ((x.1, x.2.1, x.2.2.1, x.2.2.2.1, (⟨x.2.2.2.2.1, x.2.2.2.2.2.1, x.2.2.2.2.2.2.1, x.2.2.2.2.2.2.2.2.2.2.2.2.1, x.2.2.2.2.2.2.2.1⟩ : Stake), (⟨x.2.2.2.2.2.2.2.2.1, x.2.2.2.2.2.2.2.2.2.1, x.2.2.2.2.2.2.2.2.2.2.1, x.2.2.2.2.2.2.2.2.2.2.2.2.2, x.2.2.2.2.2.2.2.2.2.2.2.1⟩ : Stake)) : Int × Int × Int × Stake × Stake × Stake)) (fun y => (y.1, y.2.1, y.2.2.1, y.2.2.2.1, y.2.2.2.2.1.Bank, y.2.2.2.2.1.Validators, y.2.2.2.2.1.Shares, y.2.2.2.2.1.Next, y.2.2.2.2.2.Bank, y.2.2.2.2.2.Validators, y.2.2.2.2.2.Shares, y.2.2.2.2.2.Next, y.2.2.2.2.1.Waits, y.2.2.2.2.2.Waits)) (fun _ => rfl))
noncomputable def p_ref_Slash_l1_e0 : Pat := ⟨[1, 4, 8, 12, 14, 15], [.nilcell 8 61 51 (.waits []), .nilcell 14 61 51 (.waits [])]⟩
noncomputable def s_ref_Slash_l1_e0 : List BS := [.cells 32 63, .cells 32 63, .cells 32 63, .rows 51, .rows 51]
noncomputable def L_ref_Slash_l1 : St → Option LR := pieceL q_ref_Slash_l1 116 0 p_ref_Slash_l1 s_ref_Slash_l1 (fun o => LR.one o (fun r => (.exit 0, stP q_ref_Slash_l1_e0 116 8 p_ref_Slash_l1_e0 s_ref_Slash_l1_e0 r))) (fun a => iter (fun s : Int × Int × Int × Int × Int × (List Wait) × Int × Int × Stake × Stake × Stake => (T_ref_Slash_l1 s.1 s.2.1 s.2.2.1 s.2.2.2.1 s.2.2.2.2.1 s.2.2.2.2.2.1 s.2.2.2.2.2.2.1 s.2.2.2.2.2.2.2.1 s.2.2.2.2.2.2.2.2.1 s.2.2.2.2.2.2.2.2.2.1 s.2.2.2.2.2.2.2.2.2.2).run) a)
noncomputable def E_ref_Slash_l1 : Exit → Option (End ((Int × Int × Int × Int × Int × (List Wait) × Int × Int × Stake × Stake × Stake) ⊕ (Int × Int × Int × Stake × Stake × Stake)))
  | .normal => some ⟨_, q_ref_Slash_l1, p_ref_Slash_l1, s_ref_Slash_l1, fun b => .inl b⟩
  | .exit 0 => some ⟨_, q_ref_Slash_l1_e0, p_ref_Slash_l1_e0, s_ref_Slash_l1_e0, fun b => .inr b⟩
  | _ => none
noncomputable def O_ref_Slash_l1 : ((Int × Int × Int × Int × Int × (List Wait) × Int × Int × Stake × Stake × Stake) ⊕ (Int × Int × Int × Stake × Stake × Stake)) → Exit × St
  | .inl b => (.normal, stP q_ref_Slash_l1 116 8 p_ref_Slash_l1 s_ref_Slash_l1 b)
  | .inr b => (.exit 0, stP q_ref_Slash_l1_e0 116 8 p_ref_Slash_l1_e0 s_ref_Slash_l1_e0 b)
theorem lok_ref_Slash_l1 : PieceOk (Y_ref_Slash).env 0 (sub C_ref_Slash [0, 1, 0, 1, 1, 1, 1, 1, 1]) L_ref_Slash_l1 :=
  loop_ok (Y := Y_ref_Slash) (A := A_ref_Slash_l1) hY_ref_Slash Facts.mix (root := C_ref_Slash) (L := 0) trivial (π := [0, 1, 0, 1, 1, 1, 1, 1, 1]) (c := loopB (sub C_ref_Slash [0, 1, 0, 1, 1, 1, 1, 1, 1])) (by kernel_rfl) q_ref_Slash_l1 116 8 p_ref_Slash_l1 s_ref_Slash_l1 E_ref_Slash_l1 (fun s => T_ref_Slash_l1 s.1 s.2.1 s.2.2.1 s.2.2.2.1 s.2.2.2.2.1 s.2.2.2.2.2.1 s.2.2.2.2.2.2.1 s.2.2.2.2.2.2.2.1 s.2.2.2.2.2.2.2.2.1 s.2.2.2.2.2.2.2.2.2.1 s.2.2.2.2.2.2.2.2.2.2) O_ref_Slash_l1 (by intro e d h b; unfold E_ref_Slash_l1 at h; split at h <;> first | (cases h; rfl) | cases h) (fun _ => rfl) (by intro r; exact (fun h => by cases h)) (fun o => LR.one o (fun r => (.exit 0, stP q_ref_Slash_l1_e0 116 8 p_ref_Slash_l1_e0 s_ref_Slash_l1_e0 r))) (by intro o Q h; obtain ⟨v, h1, h2⟩ := h; exact ⟨v, h1, h2⟩)
    (by rintro ⟨x0, x1, x2, x3, x4, x5, x6, x7, x8, x9, x10⟩; kernel_rfl)
noncomputable def A_ref_Slash : Ann := ⟨[([0, 1, 0, 1, 1, 1, 1, 1, 1], L_ref_Slash_l1)], [], [], live_ref_Slash, []⟩
noncomputable def T_ref_Slash (a0 : Stake) (a1 : Int) (a2 : Int) (a3 : Int) : Tr (Stake × Int × Int) :=
  (.bind (sh_ref_some a0 0 a1) fun v1 =>
  (.ite (v1 != 0)
    (.leaf (a0, 0, v1))
    (.guard ((0 : Int) ≤ a1 ∧ (a1 : Int) < 6)
    (.bind (sh_ref_Part (a0.Validators.Tokens.get a1) a3) fun v2 =>
    (.ite (v2.2 != 0)
      (.leaf (a0, 0, v2.2))
      (.bind (sh_ref_CopyStake_o a0) fun v3 =>
      (.bind (sh_ref_Slash_l1 a1 a2 a3 v2.1 0 a0.Waits ((a0.Waits.length : Nat) : Int) 0 a0 (⟨(⟨(⟨0, 0, 0, 0⟩ : (A4 Int)), 0, 0, 0⟩ : Bank), (⟨(⟨0, 0, 0, 0, 0, 0⟩ : (A6 Int)), (⟨0, 0, 0, 0, 0, 0⟩ : (A6 Int)), (⟨0, 0, 0, 0, 0, 0⟩ : (A6 Int)), (⟨false, false, false, false, false, false⟩ : (A6 Bool)), (⟨false, false, false, false, false, false⟩ : (A6 Bool))⟩ : Validators), (⟨(⟨0, 0, 0, 0, 0, 0⟩ : (A6 Int)), (⟨0, 0, 0, 0, 0, 0⟩ : (A6 Int)), (⟨0, 0, 0, 0, 0, 0⟩ : (A6 Int)), (⟨0, 0, 0, 0, 0, 0⟩ : (A6 Int))⟩ : (A4 (A6 Int))), [], 0⟩ : Stake) v3) fun v5 =>
      (.bind (sh_ref_Burn v5.2.2.2.1.Bank v5.2.1 v5.2.2.1) fun v6 =>
      (.guard ((0 : Int) ≤ v5.1 ∧ (v5.1 : Int) < 6)
      (.guard ((0 : Int) ≤ v5.1 ∧ (v5.1 : Int) < 6)
      (.guard ((0 : Int) ≤ v5.1 ∧ (v5.1 : Int) < 6)
      (.guard ((0 : Int) ≤ v5.1 ∧ (v5.1 : Int) < 6)
      (.leaf ({ (v5.2.2.2.2.2 : Stake) with Bank := v6.1, Validators := { (v5.2.2.2.2.2.Validators : Validators) with Tokens := (v5.2.2.2.2.2.Validators.Tokens.set v5.1 (IntKind.i64.wrap ((v5.2.2.2.2.2.Validators.Tokens.get v5.1) - v5.2.1))), Lost := (v5.2.2.2.2.2.Validators.Lost.set v5.1 (IntKind.i64.wrap ((v5.2.2.2.2.2.Validators.Lost.get v5.1) + (IntKind.i64.wrap (v5.2.1 + v5.2.2.1))))) } }, IntKind.i64.wrap (v5.2.1 + v5.2.2.1), 0))))))))))))))
noncomputable def sh_ref_Slash (a0 : Stake) (a1 : Int) (a2 : Int) (a3 : Int) : Option (Stake × Int × Int) := (T_ref_Slash a0 a1 a2 a3).run
noncomputable def qa_ref_Slash : LQ (Stake × Int × Int × Int) := (LQ.seq (Par.q (Par.ofLP stakeL)) (LQ.seq (Par.q intP) (LQ.seq (Par.q intP) (Par.q intP))))
noncomputable def qr_ref_Slash : LQ (Stake × Int × Int) := (LQ.seq (Par.q (Par.ofLP stakeL)) (LQ.seq (Par.q intP) (Par.q intP)))
noncomputable def F_ref_Slash : SpecT := specF 0 qa_ref_Slash 4 [] (fun s => T_ref_Slash s.1 s.2.1 s.2.2.1 s.2.2.2) default qr_ref_Slash 3 []
theorem ok_ref_Slash : SpecOk Try.prog 49 (F_ref_Slash).spec :=
  specF_ok (Y := Y_ref_Slash) (A := A_ref_Slash) hY_ref_Slash Facts.mix Try.func49 (c := C_ref_Slash) (by kernel_rfl) (Lc := 0) ⟨lok_ref_Slash_l1, trivial⟩ qa_ref_Slash 4 8 [] (fun s => T_ref_Slash s.1 s.2.1 s.2.2.1 s.2.2.2) default qr_ref_Slash 3 [] [.pubB 8] (by decide) (by kernel_rfl) (by rfl) (by decide) (by decide) (by rfl)
    (by rintro ⟨a0, a1, a2, a3⟩; kernel_rfl)

noncomputable def C_ref_Judge : Code := Try.f28.body.getD .skip
noncomputable def live_ref_Judge : List (List Nat) := [[1, 2, 3, 6], [1, 2, 3, 6, 8], [1, 2, 3, 6, 8, 15], [6, 7], [1, 2, 3, 6, 9], [1, 2, 3, 6, 9, 10], [1, 2, 3, 6, 9, 10, 24], [6, 7], [1, 2, 3, 6, 9, 10, 32], [6, 7], [1, 2, 3, 6, 10, 40], [6, 7], [1, 2, 6, 10], [6, 10], [6, 7]]
noncomputable def Y_ref_Judge : EnvT := ⟨Try.prog, lookT [(55, F_ref_some), (15, F_ref_CopyStake)]⟩
theorem hY_ref_Judge : (Y_ref_Judge).Ok := lookT_ok ⟨ok_ref_some, ok_ref_CopyStake, trivial⟩
noncomputable def A_ref_Judge : Ann := ⟨[], [], [], live_ref_Judge, []⟩
noncomputable def T_ref_Judge (a0 : Stake) (a1 : Int) (a2 : Int) : Tr (Stake × Int) :=
  (.bind (sh_ref_some a0 0 a1) fun v1 =>
  (.ite (v1 != 0)
    (.leaf (a0, v1))
    (.guard ((0 : Int) ≤ a1 ∧ (a1 : Int) < 6)
    (.bind (sh_ref_CopyStake a0) fun v2 =>
    (.ite ((a2 == 0) && (a0.Validators.Jailed.get a1))
      (.leaf (a0, 14))
      (.ite ((decide (a2 > 0)) && (a0.Validators.Dead.get a1))
        (.leaf (a0, 15))
        (.ite ((a2 == 1) && (!(a0.Validators.Jailed.get a1)))
          (.leaf (a0, 4))
          (.guard ((0 : Int) ≤ a1 ∧ (a1 : Int) < 6)
          (.guard ((0 : Int) ≤ a1 ∧ (a1 : Int) < 6)
          (.leaf ({ (v2 : Stake) with Validators := { (v2.Validators : Validators) with Jailed := (v2.Validators.Jailed.set a1 (a2 != 1)), Dead := (v2.Validators.Dead.set a1 (a2 == 2)) } }, 0)))))))))))
noncomputable def sh_ref_Judge (a0 : Stake) (a1 : Int) (a2 : Int) : Option (Stake × Int) := (T_ref_Judge a0 a1 a2).run
noncomputable def qa_ref_Judge : LQ (Stake × Int × Int) := (LQ.seq (Par.q (Par.ofLP stakeL)) (LQ.seq (Par.q intP) (Par.q intP)))
noncomputable def qr_ref_Judge : LQ (Stake × Int) := (LQ.seq (Par.q (Par.ofLP stakeL)) (Par.q intP))
noncomputable def F_ref_Judge : SpecT := specF 0 qa_ref_Judge 3 [] (fun s => T_ref_Judge s.1 s.2.1 s.2.2) default qr_ref_Judge 2 []
theorem ok_ref_Judge : SpecOk Try.prog 28 (F_ref_Judge).spec :=
  specF_ok (Y := Y_ref_Judge) (A := A_ref_Judge) hY_ref_Judge Facts.mix Try.func28 (c := C_ref_Judge) (by kernel_rfl) (Lc := 0) trivial qa_ref_Judge 3 6 [] (fun s => T_ref_Judge s.1 s.2.1 s.2.2) default qr_ref_Judge 2 [] [.pubB 6] (by decide) (by kernel_rfl) (by rfl) (by decide) (by decide) (by rfl)
    (by rintro ⟨a0, a1, a2⟩; kernel_rfl)

noncomputable def C_ref_Set : Code := Try.f32.body.getD .skip
noncomputable def live_ref_Set : List (List Nat) := [[1], [1, 3], [3, 11, 12], [3, 11, 12, 13], [3, 4, 5, 11, 12], [3, 4, 5, 11, 12, 18], [3, 11, 12], [3, 11, 12], [3, 6], [3, 6, 25], [3, 6, 25, 26], [3, 6, 7, 25], [3, 6, 7, 8, 25], [3, 6, 7, 8, 25, 28], [3, 6, 7, 8, 25, 28, 29], [3, 6, 7, 8, 9, 25, 28], [3, 6, 7, 8, 25, 28, 51], [3, 6, 7, 8, 25, 28], [3, 6, 7, 8, 25, 28], [3, 6, 7, 25, 62], [3, 6, 25], [3, 6, 25], [2]]
noncomputable def Y_ref_Set : EnvT := ⟨Try.prog, lookT []⟩
theorem hY_ref_Set : (Y_ref_Set).Ok := lookT_ok trivial
noncomputable def T_ref_Set_l1 (x0 : (A6 Validator)) (x1 : Int) (x2 : (A6 Int)) : Tr (((A6 Validator) × Int × (A6 Int)) ⊕ ((A6 Int))) :=
  (.ite (decide (x1 < 6))
    (.guard ((0 : Int) ≤ x1 ∧ (x1 : Int) < 6)
    (.ite (!(A6.get ⟨x0.x0.Jailed, x0.x1.Jailed, x0.x2.Jailed, x0.x3.Jailed, x0.x4.Jailed, x0.x5.Jailed⟩ x1))
      (.guard ((100 : Int) ≠ 0)
      (.guard ((0 : Int) ≤ x1 ∧ (x1 : Int) < 6)
      (.leaf (.inl (x0, IntKind.i64.wrap (x1 + 1), (x2.set x1 (IntKind.i64.wrap (Int.tdiv (A6.get ⟨x0.x0.Tokens, x0.x1.Tokens, x0.x2.Tokens, x0.x3.Tokens, x0.x4.Tokens, x0.x5.Tokens⟩ x1) 100))))))))
      (.leaf (.inl (x0, IntKind.i64.wrap (x1 + 1), x2)))))
    (.leaf (.inr x2)))
noncomputable def sh_ref_Set_l1 (x0 : (A6 Validator)) (x1 : Int) (x2 : (A6 Int)) : Option ((A6 Int)) := iter (fun s : (A6 Validator) × Int × (A6 Int) => (T_ref_Set_l1 s.1 s.2.1 s.2.2).run) (x0, x1, x2)
noncomputable def A_ref_Set_l1 : Ann := ⟨[], [], [], live_ref_Set, []⟩
noncomputable def q_ref_Set_l1 : LQ ((A6 Validator) × Int × (A6 Int)) := (LQ.skip (LQ.const (.ptr 0 0)) (LQ.seq (Par.q (Par.ofLP (a6L validatorL))) (LQ.seq (Par.q intP) (LP.q (a6L (LP.one intP))))))
noncomputable def p_ref_Set_l1 : Pat := ⟨[3, 11, 12], []⟩
noncomputable def s_ref_Set_l1 : List BS := [.cells 28 6]
noncomputable def q_ref_Set_l1_e0 : LQ ((A6 Int)) := (LQ.skip (LQ.const (.ptr 0 0)) (LP.q (a6L (LP.one intP))))
noncomputable def p_ref_Set_l1_e0 : Pat := ⟨[3], []⟩
noncomputable def s_ref_Set_l1_e0 : List BS := [.cells 28 6]
noncomputable def L_ref_Set_l1 : St → Option LR := pieceL q_ref_Set_l1 73 0 p_ref_Set_l1 s_ref_Set_l1 (fun o => LR.one o (fun r => (.exit 0, stP q_ref_Set_l1_e0 73 6 p_ref_Set_l1_e0 s_ref_Set_l1_e0 r))) (fun a => iter (fun s : (A6 Validator) × Int × (A6 Int) => (T_ref_Set_l1 s.1 s.2.1 s.2.2).run) a)
noncomputable def E_ref_Set_l1 : Exit → Option (End (((A6 Validator) × Int × (A6 Int)) ⊕ ((A6 Int))))
  | .normal => some ⟨_, q_ref_Set_l1, p_ref_Set_l1, s_ref_Set_l1, fun b => .inl b⟩
  | .exit 0 => some ⟨_, q_ref_Set_l1_e0, p_ref_Set_l1_e0, s_ref_Set_l1_e0, fun b => .inr b⟩
  | _ => none
noncomputable def O_ref_Set_l1 : (((A6 Validator) × Int × (A6 Int)) ⊕ ((A6 Int))) → Exit × St
  | .inl b => (.normal, stP q_ref_Set_l1 73 6 p_ref_Set_l1 s_ref_Set_l1 b)
  | .inr b => (.exit 0, stP q_ref_Set_l1_e0 73 6 p_ref_Set_l1_e0 s_ref_Set_l1_e0 b)
theorem lok_ref_Set_l1 : PieceOk (Y_ref_Set).env 0 (sub C_ref_Set [0, 1, 0, 1, 1]) L_ref_Set_l1 :=
  loop_ok (Y := Y_ref_Set) (A := A_ref_Set_l1) hY_ref_Set Facts.mix (root := C_ref_Set) (L := 0) trivial (π := [0, 1, 0, 1, 1]) (c := loopB (sub C_ref_Set [0, 1, 0, 1, 1])) (by kernel_rfl) q_ref_Set_l1 73 6 p_ref_Set_l1 s_ref_Set_l1 E_ref_Set_l1 (fun s => T_ref_Set_l1 s.1 s.2.1 s.2.2) O_ref_Set_l1 (by intro e d h b; unfold E_ref_Set_l1 at h; split at h <;> first | (cases h; rfl) | cases h) (fun _ => rfl) (by intro r; exact (fun h => by cases h)) (fun o => LR.one o (fun r => (.exit 0, stP q_ref_Set_l1_e0 73 6 p_ref_Set_l1_e0 s_ref_Set_l1_e0 r))) (by intro o Q h; obtain ⟨v, h1, h2⟩ := h; exact ⟨v, h1, h2⟩)
    (by rintro ⟨x0, x1, x2⟩; kernel_rfl)
noncomputable def T_ref_Set_l2 (x0 : Int) (x1 : Int) (x2 : Int) (x3 : Int) (x4 : (A6 Int)) (x5 : (List Power)) : Tr ((Int × Int × Int × Int × (A6 Int) × (List Power)) ⊕ (Int × Int × Int × (A6 Int) × (List Power))) :=
  (.ite (decide (x3 < 6))
    (.guard ((0 : Int) ≤ x3 ∧ (x3 : Int) < 6)
    (.guard ((0 : Int) ≤ x0 ∧ (x0 : Int) < 6)
    (.guard (((decide ((x4.get x3) > (x4.get x0))) = false → ((0 : Int) ≤ x3 ∧ (x3 : Int) < 6) ∧ True))
    (.guard (((decide ((x4.get x3) > (x4.get x0))) = false → ((0 : Int) ≤ x0 ∧ (x0 : Int) < 6) ∧ True))
    (.ite ((decide ((x4.get x3) > (x4.get x0))) || (((x4.get x3) == (x4.get x0)) && (decide (x3 < x0))))
      (.leaf (.inl (x0, IntKind.i64.wrap (x1 + 1), x2, IntKind.i64.wrap (x3 + 1), x4, x5)))
      (.leaf (.inl (x0, x1, x2, IntKind.i64.wrap (x3 + 1), x4, x5))))))))
    (.leaf (.inr (x0, x1, x2, x4, x5))))
noncomputable def sh_ref_Set_l2 (x0 : Int) (x1 : Int) (x2 : Int) (x3 : Int) (x4 : (A6 Int)) (x5 : (List Power)) : Option (Int × Int × Int × (A6 Int) × (List Power)) := iter (fun s : Int × Int × Int × Int × (A6 Int) × (List Power) => (T_ref_Set_l2 s.1 s.2.1 s.2.2.1 s.2.2.2.1 s.2.2.2.2.1 s.2.2.2.2.2).run) (x0, x1, x2, x3, x4, x5)
noncomputable def A_ref_Set_l2 : Ann := ⟨[], [], [], live_ref_Set, []⟩
noncomputable def q_ref_Set_l2 : LQ (Int × Int × Int × Int × (A6 Int) × (List Power)) := (LQ.skip (LQ.const (.ptr 0 0)) (LQ.skip (LQ.const (.own 1)) (LQ.seq (Par.q intP) (LQ.seq (Par.q intP) (LQ.seq (Par.q intP) (LQ.seq (Par.q intP) (LQ.seq (LP.q (a6L (LP.one intP))) (Par.q powersP))))))))
noncomputable def p_ref_Set_l2 : Pat := ⟨[3, 6, 7, 8, 25, 28], [.nilown 6 45 (.powers [])]⟩
noncomputable def s_ref_Set_l2 : List BS := [.cells 28 6, .rows 45]
noncomputable def q_ref_Set_l2_e0 : LQ (Int × Int × Int × (A6 Int) × (List Power)) := (LQ.skip (LQ.const (.ptr 0 0)) (LQ.skip (LQ.const (.own 1)) (LQ.seq (Par.q intP) (LQ.seq (Par.q intP) (LQ.seq (Par.q intP) (LQ.seq (LP.q (a6L (LP.one intP))) (Par.q powersP)))))))
noncomputable def p_ref_Set_l2_e0 : Pat := ⟨[3, 6, 7, 8, 25], [.nilown 6 45 (.powers [])]⟩
noncomputable def s_ref_Set_l2_e0 : List BS := [.cells 28 6, .rows 45]
noncomputable def L_ref_Set_l2 : St → Option LR := pieceL q_ref_Set_l2 73 0 p_ref_Set_l2 s_ref_Set_l2 (fun o => LR.one o (fun r => (.exit 4, stP q_ref_Set_l2_e0 73 6 p_ref_Set_l2_e0 s_ref_Set_l2_e0 r))) (fun a => iter (fun s : Int × Int × Int × Int × (A6 Int) × (List Power) => (T_ref_Set_l2 s.1 s.2.1 s.2.2.1 s.2.2.2.1 s.2.2.2.2.1 s.2.2.2.2.2).run) a)
noncomputable def E_ref_Set_l2 : Exit → Option (End ((Int × Int × Int × Int × (A6 Int) × (List Power)) ⊕ (Int × Int × Int × (A6 Int) × (List Power))))
  | .normal => some ⟨_, q_ref_Set_l2, p_ref_Set_l2, s_ref_Set_l2, fun b => .inl b⟩
  | .exit 4 => some ⟨_, q_ref_Set_l2_e0, p_ref_Set_l2_e0, s_ref_Set_l2_e0, fun b => .inr b⟩
  | _ => none
noncomputable def O_ref_Set_l2 : ((Int × Int × Int × Int × (A6 Int) × (List Power)) ⊕ (Int × Int × Int × (A6 Int) × (List Power))) → Exit × St
  | .inl b => (.normal, stP q_ref_Set_l2 73 6 p_ref_Set_l2 s_ref_Set_l2 b)
  | .inr b => (.exit 4, stP q_ref_Set_l2_e0 73 6 p_ref_Set_l2_e0 s_ref_Set_l2_e0 b)
theorem lok_ref_Set_l2 : PieceOk (Y_ref_Set).env 0 (sub C_ref_Set [0, 1, 0, 1, 1, 0, 0, 1, 1, 0, 0, 1, 0, 1, 1, 1, 1]) L_ref_Set_l2 :=
  loop_ok (Y := Y_ref_Set) (A := A_ref_Set_l2) hY_ref_Set Facts.mix (root := C_ref_Set) (L := 0) trivial (π := [0, 1, 0, 1, 1, 0, 0, 1, 1, 0, 0, 1, 0, 1, 1, 1, 1]) (c := loopB (sub C_ref_Set [0, 1, 0, 1, 1, 0, 0, 1, 1, 0, 0, 1, 0, 1, 1, 1, 1])) (by kernel_rfl) q_ref_Set_l2 73 6 p_ref_Set_l2 s_ref_Set_l2 E_ref_Set_l2 (fun s => T_ref_Set_l2 s.1 s.2.1 s.2.2.1 s.2.2.2.1 s.2.2.2.2.1 s.2.2.2.2.2) O_ref_Set_l2 (by intro e d h b; unfold E_ref_Set_l2 at h; split at h <;> first | (cases h; rfl) | cases h) (fun _ => rfl) (by intro r; exact (fun h => by cases h)) (fun o => LR.one o (fun r => (.exit 4, stP q_ref_Set_l2_e0 73 6 p_ref_Set_l2_e0 s_ref_Set_l2_e0 r))) (by intro o Q h; obtain ⟨v, h1, h2⟩ := h; exact ⟨v, h1, h2⟩)
    (by rintro ⟨x0, x1, x2, x3, x4, x5⟩; kernel_rfl)
noncomputable def T_ref_Set_l3 (x0 : Int) (x1 : (A6 Int)) (x2 : (List Power)) : Tr ((Int × (A6 Int) × (List Power)) ⊕ ((List Power))) :=
  (.ite (decide (x0 < 6))
    (.bind (sh_ref_Set_l2 x0 0 x0 0 x1 x2) fun v2 =>
    (.guard ((0 : Int) ≤ v2.1 ∧ (v2.1 : Int) < 6)
    (.ite ((decide ((v2.2.2.2.1.get v2.1) > 0)) && (decide (v2.2.1 < 4)))
      (.guard ((0 : Int) ≤ v2.1 ∧ (v2.1 : Int) < 6)
      (.guard ((Sl.len (.powers v2.2.2.2.2) + Sl.len (.powers [(⟨v2.1, v2.2.2.2.1.get v2.1⟩ : Power)])) * 16 ≤ 140737488355328)
      (.leaf (.inl (IntKind.i64.wrap (v2.2.2.1 + 1), v2.2.2.2.1, v2.2.2.2.2 ++ [(⟨v2.1, v2.2.2.2.1.get v2.1⟩ : Power)])))))
      (.leaf (.inl (IntKind.i64.wrap (v2.2.2.1 + 1), v2.2.2.2.1, v2.2.2.2.2))))))
    (.leaf (.inr x2)))
noncomputable def sh_ref_Set_l3 (x0 : Int) (x1 : (A6 Int)) (x2 : (List Power)) : Option ((List Power)) := iter (fun s : Int × (A6 Int) × (List Power) => (T_ref_Set_l3 s.1 s.2.1 s.2.2).run) (x0, x1, x2)
noncomputable def A_ref_Set_l3 : Ann := ⟨[([0, 1, 0, 1, 1, 0, 0, 1, 1, 0, 0, 1, 0, 1, 1, 1, 1], L_ref_Set_l2)], [], [], live_ref_Set, []⟩
noncomputable def q_ref_Set_l3 : LQ (Int × (A6 Int) × (List Power)) := (LQ.skip (LQ.const (.ptr 0 0)) (LQ.skip (LQ.const (.own 1)) (LQ.seq (Par.q intP) (LQ.seq (LP.q (a6L (LP.one intP))) (Par.q powersP)))))
noncomputable def p_ref_Set_l3 : Pat := ⟨[3, 6, 25], [.nilown 6 45 (.powers [])]⟩
noncomputable def s_ref_Set_l3 : List BS := [.cells 28 6, .rows 45]
noncomputable def q_ref_Set_l3_e0 : LQ ((List Power)) := (LQ.skip (LQ.const (.own 0)) (Par.q powersP))
noncomputable def p_ref_Set_l3_e0 : Pat := ⟨[6], [.nilown 6 45 (.powers [])]⟩
noncomputable def s_ref_Set_l3_e0 : List BS := [.rows 45]
noncomputable def L_ref_Set_l3 : St → Option LR := pieceL q_ref_Set_l3 73 0 p_ref_Set_l3 s_ref_Set_l3 (fun o => LR.one o (fun r => (.exit 2, stP q_ref_Set_l3_e0 73 6 p_ref_Set_l3_e0 s_ref_Set_l3_e0 r))) (fun a => iter (fun s : Int × (A6 Int) × (List Power) => (T_ref_Set_l3 s.1 s.2.1 s.2.2).run) a)
noncomputable def E_ref_Set_l3 : Exit → Option (End ((Int × (A6 Int) × (List Power)) ⊕ ((List Power))))
  | .normal => some ⟨_, q_ref_Set_l3, p_ref_Set_l3, s_ref_Set_l3, fun b => .inl b⟩
  | .exit 2 => some ⟨_, q_ref_Set_l3_e0, p_ref_Set_l3_e0, s_ref_Set_l3_e0, fun b => .inr b⟩
  | _ => none
noncomputable def O_ref_Set_l3 : ((Int × (A6 Int) × (List Power)) ⊕ ((List Power))) → Exit × St
  | .inl b => (.normal, stP q_ref_Set_l3 73 6 p_ref_Set_l3 s_ref_Set_l3 b)
  | .inr b => (.exit 2, stP q_ref_Set_l3_e0 73 6 p_ref_Set_l3_e0 s_ref_Set_l3_e0 b)
theorem lok_ref_Set_l3 : PieceOk (Y_ref_Set).env 0 (sub C_ref_Set [0, 1, 0, 1, 1, 1, 1]) L_ref_Set_l3 :=
  loop_ok (Y := Y_ref_Set) (A := A_ref_Set_l3) hY_ref_Set Facts.mix (root := C_ref_Set) (L := 0) ⟨lok_ref_Set_l2, trivial⟩ (π := [0, 1, 0, 1, 1, 1, 1]) (c := loopB (sub C_ref_Set [0, 1, 0, 1, 1, 1, 1])) (by kernel_rfl) q_ref_Set_l3 73 6 p_ref_Set_l3 s_ref_Set_l3 E_ref_Set_l3 (fun s => T_ref_Set_l3 s.1 s.2.1 s.2.2) O_ref_Set_l3 (by intro e d h b; unfold E_ref_Set_l3 at h; split at h <;> first | (cases h; rfl) | cases h) (fun _ => rfl) (by intro r; exact (fun h => by cases h)) (fun o => LR.one o (fun r => (.exit 2, stP q_ref_Set_l3_e0 73 6 p_ref_Set_l3_e0 s_ref_Set_l3_e0 r))) (by intro o Q h; obtain ⟨v, h1, h2⟩ := h; exact ⟨v, h1, h2⟩)
    (by rintro ⟨x0, x1, x2⟩; kernel_rfl)
noncomputable def A_ref_Set : Ann := ⟨[([0, 1, 0, 1, 1], L_ref_Set_l1), ([0, 1, 0, 1, 1, 1, 1], L_ref_Set_l3)], [], [], live_ref_Set, []⟩
noncomputable def T_ref_Set (a0 : Stake) : Tr ((List Power)) :=
  (.bind (sh_ref_Set_l1 (⟨(⟨a0.Validators.Tokens.x0, a0.Validators.Shares.x0, a0.Validators.Lost.x0, a0.Validators.Jailed.x0, a0.Validators.Dead.x0⟩ : Validator), (⟨a0.Validators.Tokens.x1, a0.Validators.Shares.x1, a0.Validators.Lost.x1, a0.Validators.Jailed.x1, a0.Validators.Dead.x1⟩ : Validator), (⟨a0.Validators.Tokens.x2, a0.Validators.Shares.x2, a0.Validators.Lost.x2, a0.Validators.Jailed.x2, a0.Validators.Dead.x2⟩ : Validator), (⟨a0.Validators.Tokens.x3, a0.Validators.Shares.x3, a0.Validators.Lost.x3, a0.Validators.Jailed.x3, a0.Validators.Dead.x3⟩ : Validator), (⟨a0.Validators.Tokens.x4, a0.Validators.Shares.x4, a0.Validators.Lost.x4, a0.Validators.Jailed.x4, a0.Validators.Dead.x4⟩ : Validator), (⟨a0.Validators.Tokens.x5, a0.Validators.Shares.x5, a0.Validators.Lost.x5, a0.Validators.Jailed.x5, a0.Validators.Dead.x5⟩ : Validator)⟩ : (A6 Validator)) 0 (⟨0, 0, 0, 0, 0, 0⟩ : (A6 Int))) fun v1 =>
  (.bind (sh_ref_Set_l3 0 v1 []) fun v3 =>
  (.leaf v3)))
noncomputable def sh_ref_Set (a0 : Stake) : Option ((List Power)) := (T_ref_Set a0).run
noncomputable def qa_ref_Set : LQ (Stake) := (Par.q (Par.ofLP stakeL))
noncomputable def qr_ref_Set : LQ ((List Power)) := (Par.q powersP)
noncomputable def F_ref_Set : SpecT := specF 0 qa_ref_Set 1 [] (fun s => T_ref_Set s) default qr_ref_Set 1 []
theorem ok_ref_Set : SpecOk Try.prog 32 (F_ref_Set).spec :=
  specF_ok (Y := Y_ref_Set) (A := A_ref_Set) hY_ref_Set Facts.mix Try.func32 (c := C_ref_Set) (by kernel_rfl) (Lc := 0) ⟨lok_ref_Set_l1, lok_ref_Set_l3, trivial⟩ qa_ref_Set 1 6 [] (fun s => T_ref_Set s) default qr_ref_Set 1 [] [.pub 2] (by decide) (by kernel_rfl) (by rfl) (by decide) (by decide) (by rfl)
    (by rintro a0; kernel_rfl)

end Go.Proofs.Ytbpehnghffljiaa.Ab
