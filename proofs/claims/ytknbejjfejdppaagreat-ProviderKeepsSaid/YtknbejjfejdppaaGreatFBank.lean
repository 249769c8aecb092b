/-
  The functions, each by its tree.
-/
import Derived.Test.YtknbejjfejdppaaGreatFacts
import Derived.Test.YtknbejjfejdppaaGreatAbStructs
import Derived.Test.YtknbejjfejdppaaGreatAbFun
import Derived.Test.YtknbejjfejdppaaGreatFRatio
namespace Go.Proofs.YtknbejjfejdppaaGreat.Ab
open Go Go.RowKit
set_option maxRecDepth 100000
set_option linter.unusedVariables false
set_option linter.unusedSimpArgs false
noncomputable section

noncomputable def zc10 : Code := Tryz.f136.body.getD .skip
def zv10 : List (List Nat) := [[0], [0, 1], [0, 1, 3], [0, 1, 3, 4], [0, 1, 2, 3], [0, 1, 3], [0, 1, 3], [0]]
noncomputable def zy10 : EnvT := ⟨Tryz.prog, lookT []⟩
theorem zh10 : (zy10).Ok := lookT_ok trivial
def T_bank_New_l1 (x0 : Int) (x1 : Bank) (x2 : Bank) : Tr ((Int × Bank × Bank) ⊕ (Bank × Bank)) :=
  (.ite (decide (x0 < 4))
    (.guard ((0 : Int) ≤ x0 ∧ (x0 : Int) < 4)
    (.leaf (.inl (IntKind.i64.wrap (x0 + 1), x1, { (x2 : Bank) with Free := (x2.Free.set x0 100000) }))))
    (.leaf (.inr (x1, x2))))
def sh_bank_New_l1 (x0 : Int) (x1 : Bank) (x2 : Bank) : Option (Bank × Bank) := iter (fun s : Int × Bank × Bank => (T_bank_New_l1 s.1 s.2.1 s.2.2).run) (x0, x1, x2)
def za10a : Ann := ⟨[], [], [], zv10, []⟩
def zq10a : EndD (Int × Bank × Bank) := ⟨(LQ.skip (LQ.const (.ptr 0 0)) (LQ.skip (LQ.const (.ptr 1 0)) (LQ.seq (Par.q intP) (LQ.seq (LP.q bankL) (LP.q bankL))))), ⟨[0, 1, 3], []⟩, [.cells 24 7, .cells 24 7]⟩
def zq10ae0 : EndD (Bank × Bank) := ⟨(LQ.skip (LQ.const (.ptr 0 0)) (LQ.skip (LQ.const (.ptr 1 0)) (LQ.seq (LP.q bankL) (LP.q bankL)))), ⟨[0, 1], []⟩, [.cells 24 7, .cells 24 7]⟩
def zl10a : St → Option LR := L1 11 4 0 zq10a (.exit 0) zq10ae0 (fun s => T_bank_New_l1 s.1 s.2.1 s.2.2)
theorem zk10a : PieceOk (zy10).env 0 (sub zc10 [0, 1, 0, 1, 1]) zl10a :=
  loop1 (A := za10a) zh10 Facts.mix trivial (k := loopB (sub zc10 [0, 1, 0, 1, 1])) (by kernel_rfl) rfl (by rintro ⟨x0, x1, x2⟩; kernel_rfl)
def za10 : Ann := ⟨[([0, 1, 0, 1, 1], zl10a)], [], [], zv10, []⟩
def T_bank_New  : Tr (Bank) :=
  (.bind (sh_bank_New_l1 0 (⟨(⟨0, 0, 0, 0⟩ : (A4 Int)), 0, 0, 0⟩ : Bank) (⟨(⟨0, 0, 0, 0⟩ : (A4 Int)), 0, 0, 0⟩ : Bank)) fun v1 =>
  (.leaf v1.2))
def sh_bank_New  : Option (Bank) := (T_bank_New ).run
def zr10 : LQ (Unit) := LQ.nil
def qr_bank_New : LQ (Bank) := (Par.q (Par.ofLP bankL))
def F_bank_New : SpecT := specF 0 zr10 0 [] (fun s => T_bank_New ) default qr_bank_New 1 []
theorem ok_bank_New : SpecOk Tryz.prog 136 (F_bank_New).spec :=
  specF_ok (A := za10) zh10 Facts.mix Tryz.func136 (c := zc10) (by kernel_rfl) (Lc := 0) ⟨zk10a, trivial⟩ zr10 0 4 [] (fun s => T_bank_New ) default qr_bank_New 1 [] [] (by decide) (by kernel_rfl) (by rfl) (by decide) (by decide) (by rfl)
    (by rintro _; kernel_rfl)

noncomputable def zc11 : Code := Tryz.f23.body.getD .skip
def zv11 : List (List Nat) := [[1], [1, 3], [3, 15, 16], [3, 15, 16, 17], [3, 5, 15, 16], [3, 15, 16], [3, 15, 16], [2]]
noncomputable def zy11 : EnvT := ⟨Tryz.prog, lookT []⟩
theorem zh11 : (zy11).Ok := lookT_ok trivial
def T_bank_Sum_l1 (x0 : Int) (x1 : (A4 Int)) (x2 : Int) : Tr ((Int × (A4 Int) × Int) ⊕ (Int)) :=
  (.ite (decide (x2 < 4))
    (.guard ((0 : Int) ≤ x2 ∧ (x2 : Int) < 4)
    (.leaf (.inl (IntKind.i64.wrap (x0 + (x1.get x2)), x1, IntKind.i64.wrap (x2 + 1)))))
    (.leaf (.inr x0)))
def sh_bank_Sum_l1 (x0 : Int) (x1 : (A4 Int)) (x2 : Int) : Option (Int) := iter (fun s : Int × (A4 Int) × Int => (T_bank_Sum_l1 s.1 s.2.1 s.2.2).run) (x0, x1, x2)
def za11a : Ann := ⟨[], [], [], zv11, []⟩
def zq11a : EndD (Int × (A4 Int) × Int) := ⟨(LQ.seq (Par.q intP) (LQ.seq (Par.q (Par.ofLP (a4L (LP.one intP)))) (Par.q intP))), ⟨[3, 15, 16], []⟩, []⟩
def zq11ae0 : EndD (Int) := ⟨(Par.q intP), ⟨[3], []⟩, []⟩
def zl11a : St → Option LR := L1 24 3 0 zq11a (.exit 0) zq11ae0 (fun s => T_bank_Sum_l1 s.1 s.2.1 s.2.2)
theorem zk11a : PieceOk (zy11).env 0 (sub zc11 [0, 1, 0, 1, 1]) zl11a :=
  loop1 (A := za11a) zh11 Facts.mix trivial (k := loopB (sub zc11 [0, 1, 0, 1, 1])) (by kernel_rfl) rfl (by rintro ⟨x0, x1, x2⟩; kernel_rfl)
def za11 : Ann := ⟨[([0, 1, 0, 1, 1], zl11a)], [], [], zv11, []⟩
def T_bank_Sum (a0 : Bank) : Tr (Int) :=
  (.bind (sh_bank_Sum_l1 (IntKind.i64.wrap ((IntKind.i64.wrap (a0.Bonded + a0.Waiting)) + a0.Burnt)) a0.Free 0) fun v1 =>
  (.leaf v1))
def sh_bank_Sum (a0 : Bank) : Option (Int) := (T_bank_Sum a0).run
def zr11 : LQ (Bank) := (Par.q (Par.ofLP bankL))
def qr_bank_Sum : LQ (Int) := (Par.q intP)
def F_bank_Sum : SpecT := specF 0 zr11 1 [] (fun s => T_bank_Sum s) default qr_bank_Sum 1 []
theorem ok_bank_Sum : SpecOk Tryz.prog 23 (F_bank_Sum).spec :=
  specF_ok (A := za11) zh11 Facts.mix Tryz.func23 (c := zc11) (by kernel_rfl) (Lc := 0) ⟨zk11a, trivial⟩ zr11 1 3 [] (fun s => T_bank_Sum s) default qr_bank_Sum 1 [] [] (by decide) (by kernel_rfl) (by rfl) (by decide) (by decide) (by rfl)
    (by rintro a0; kernel_rfl)

noncomputable def zc12 : Code := Tryz.f116.body.getD .skip
def zv12 : List (List Nat) := [[1], [1, 14, 15, 16], [1, 14, 15, 16, 17], [1, 4, 14, 15, 16], [1, 14, 15, 16, 25], [2], [1, 14, 15, 16], [2]]
noncomputable def zy12 : EnvT := ⟨Tryz.prog, lookT [(23, F_bank_Sum)]⟩
theorem zh12 : (zy12).Ok := lookT_ok ⟨ok_bank_Sum, trivial⟩
def T_bank_Good_l1 (x0 : Int) (x1 : Int) (x2 : Bank) (x3 : (List Int)) : Tr ((Int × Int × Bank × (List Int)) ⊕ ((Bool) ⊕ (Bank))) :=
  (.ite (decide (x1 < x0))
    (.guard ((0 : Int) ≤ x1 ∧ x1 < ((Sl.len (.ints x3) : Nat) : Int))
    (.ite ((decide ((x3.getD x1.toNat 0) < 0)) || (decide ((x3.getD x1.toNat 0) > 400000)))
      (.leaf (.inr (.inl false)))
      (.leaf (.inl (x0, IntKind.i64.wrap (x1 + 1), x2, x3)))))
    (.leaf (.inr (.inr x2))))
def sh_bank_Good_l1 (x0 : Int) (x1 : Int) (x2 : Bank) (x3 : (List Int)) : Option ((Bool) ⊕ (Bank)) := iter (fun s : Int × Int × Bank × (List Int) => (T_bank_Good_l1 s.1 s.2.1 s.2.2.1 s.2.2.2).run) (x0, x1, x2, x3)
def za12a : Ann := ⟨[], [], [], zv12, []⟩
def zq12a : EndD (Int × Int × Bank × (List Int)) := ⟨(LQ.skip (LQ.const (.ptr 0 0)) (LQ.skip (LQ.const (.own 1)) (LQ.seq (Par.q intP) (LQ.seq (Par.q intP) (LQ.seq (LP.q bankL) (Par.q intsP)))))), ⟨[1, 14, 15, 16], [.nilown 14 3 (.ints [])]⟩, [.cells 24 7, .rows 3]⟩
def zq12ae0 : EndD (Bool) := ⟨(Par.q boolP), ⟨[2], []⟩, []⟩
def zq12ae1 : EndD (Bank) := ⟨(LQ.skip (LQ.const (.ptr 0 0)) (LP.q bankL)), ⟨[1], []⟩, [.cells 24 7]⟩
def zl12a : St → Option LR := L2 30 5 0 zq12a .ret zq12ae0 (.exit 0) zq12ae1 (fun s => T_bank_Good_l1 s.1 s.2.1 s.2.2.1 s.2.2.2)
theorem zk12a : PieceOk (zy12).env 0 (sub zc12 [0, 1, 0, 1]) zl12a :=
  loop2 (A := za12a) zh12 Facts.mix trivial (k := loopB (sub zc12 [0, 1, 0, 1])) (by kernel_rfl) rfl rfl (by rintro ⟨x0, x1, x2, x3⟩; kernel_rfl)
def za12 : Ann := ⟨[([0, 1, 0, 1], zl12a)], [], [], zv12, []⟩
def T_bank_Good (a0 : Bank) : Tr (Bool) :=
  (.guard ((Sl.len (.ints [a0.Free.x0, a0.Free.x1, a0.Free.x2, a0.Free.x3]) + Sl.len (.ints [a0.Bonded, a0.Waiting, a0.Burnt])) * 8 ≤ 140737488355328)
  (.guard (0 < Sl.len (.ints [a0.Bonded, a0.Waiting, a0.Burnt]))
  (.two (sh_bank_Good_l1 ((([a0.Free.x0, a0.Free.x1, a0.Free.x2, a0.Free.x3] ++ [a0.Bonded, a0.Waiting, a0.Burnt]).length : Nat) : Int) 0 a0 ([a0.Free.x0, a0.Free.x1, a0.Free.x2, a0.Free.x3] ++ [a0.Bonded, a0.Waiting, a0.Burnt])) (fun v1 =>
    (.leaf v1)) (fun v2 =>
    (.bind (sh_bank_Sum v2) fun v3 =>
    (.leaf (v3 == 400000)))))))
def sh_bank_Good (a0 : Bank) : Option (Bool) := (T_bank_Good a0).run
def zr12 : LQ (Bank) := (Par.q (Par.ofLP bankL))
def qr_bank_Good : LQ (Bool) := (Par.q boolP)
def F_bank_Good : SpecT := specF 0 zr12 1 [] (fun s => T_bank_Good s) default qr_bank_Good 1 []
theorem ok_bank_Good : SpecOk Tryz.prog 116 (F_bank_Good).spec :=
  specF_ok (A := za12) zh12 Facts.mix Tryz.func116 (c := zc12) (by kernel_rfl) (Lc := 0) ⟨zk12a, trivial⟩ zr12 1 5 [] (fun s => T_bank_Good s) default qr_bank_Good 1 [] [] (by decide) (by kernel_rfl) (by rfl) (by decide) (by decide) (by rfl)
    (by rintro a0; kernel_rfl)

noncomputable def zc13 : Code := Tryz.f144.body.getD .skip
def zv13 : List (List Nat) := [[0], [2]]
noncomputable def zy13 : EnvT := ⟨Tryz.prog, lookT []⟩
theorem zh13 : (zy13).Ok := lookT_ok trivial
def za13 : Ann := ⟨[], [], [], zv13, []⟩
def T_bank_delegator (a0 : Int) : Tr (Bool) :=
  (.leaf ((decide (a0 ≥ 0)) && (decide (a0 < 4))))
def sh_bank_delegator (a0 : Int) : Option (Bool) := (T_bank_delegator a0).run
def zr13 : LQ (Int) := (Par.q intP)
def qr_bank_delegator : LQ (Bool) := (Par.q boolP)
def F_bank_delegator : SpecT := specF 0 zr13 1 [] (fun s => T_bank_delegator s) default qr_bank_delegator 1 []
theorem ok_bank_delegator : SpecOk Tryz.prog 144 (F_bank_delegator).spec :=
  specF_ok (A := za13) zh13 Facts.mix Tryz.func144 (c := zc13) (by kernel_rfl) (Lc := 0) trivial zr13 1 2 [] (fun s => T_bank_delegator s) default qr_bank_delegator 1 [] [] (by decide) (by kernel_rfl) (by rfl) (by decide) (by decide) (by rfl)
    (by rintro a0; kernel_rfl)

noncomputable def zc14 : Code := Tryz.f179.body.getD .skip
def zv14 : List (List Nat) := [[0, 1], [3]]
noncomputable def zy14 : EnvT := ⟨Tryz.prog, lookT []⟩
theorem zh14 : (zy14).Ok := lookT_ok trivial
def za14 : Ann := ⟨[], [], [], zv14, []⟩
def T_bank_free_1 (a0 : Bank) (a1 : Int) : Tr (Int × Bank × Int) :=
  (.guard ((0 : Int) ≤ a1 ∧ (a1 : Int) < 4)
  (.leaf (a1, a0, a1)))
def sh_bank_free_1 (a0 : Bank) (a1 : Int) : Option (Int × Bank × Int) := (T_bank_free_1 a0 a1).run
def zr14 : LQ (Bank × Int) := (LQ.skip (LQ.const (.ptr 0 0)) (LQ.skip (LQ.const (.ptr 1 0)) (LQ.seq (LP.q bankL) (Par.q intP))))
def qr_bank_free_1 : LQ (Int × Bank × Int) := (LQ.seq (LQ.pix1 0 0 4 1 0) (LQ.seq (LP.q bankL) (Par.q intP)))
def F_bank_free_1 : SpecT := specF 2 zr14 2 [.cells 24 7, .cells 3 1] (fun s => T_bank_free_1 s.1 s.2) default qr_bank_free_1 1 [.cells 24 7, .cells 3 1]
theorem ok_bank_free_1 : SpecOk Tryz.prog 179 (F_bank_free_1).spec :=
  specF_ok (A := za14) zh14 Facts.mix Tryz.func179 (c := zc14) (by kernel_rfl) (Lc := 2) trivial zr14 2 4 [.cells 24 7, .cells 3 1] (fun s => T_bank_free_1 s.1 s.2) default qr_bank_free_1 1 [.cells 24 7, .cells 3 1] [] (by decide) (by kernel_rfl) (by rfl) (by decide) (by decide) (by rfl)
    (by rintro ⟨a0, a1⟩; kernel_rfl)

noncomputable def zc15 : Code := Tryz.f147.body.getD .skip
def zv15 : List (List Nat) := [[1], [2]]
noncomputable def zy15 : EnvT := ⟨Tryz.prog, lookT []⟩
theorem zh15 : (zy15).Ok := lookT_ok trivial
def za15 : Ann := ⟨[], [], [], zv15, []⟩
def T_bank_free (a0 : Int) : Tr (Int) :=
  (.leaf a0)
def sh_bank_free (a0 : Int) : Option (Int) := (T_bank_free a0).run
def zr15 : LQ (Int) := (Par.q intP)
def qr_bank_free : LQ (Int) := (LQ.skip (LQ.const (.fn 179 [.ptr 0 0])) (Par.q intP))
def F_bank_free : SpecT := specF 0 zr15 1 [] (fun s => T_bank_free s) default qr_bank_free 1 [.cells 3 1]
theorem ok_bank_free : SpecOk Tryz.prog 147 (F_bank_free).spec :=
  specF_ok (A := za15) zh15 Facts.mix Tryz.func147 (c := zc15) (by kernel_rfl) (Lc := 0) trivial zr15 1 3 [] (fun s => T_bank_free s) default qr_bank_free 1 [.cells 3 1] [] (by decide) (by kernel_rfl) (by rfl) (by decide) (by decide) (by rfl)
    (by rintro a0; kernel_rfl)

noncomputable def zc16 : Code := Tryz.f150.body.getD .skip
def zv16 : List (List Nat) := [[0], [2]]
noncomputable def zy16 : EnvT := ⟨Tryz.prog, lookT []⟩
theorem zh16 : (zy16).Ok := lookT_ok trivial
def za16 : Ann := ⟨[], [], [], zv16, []⟩
def T_bank_bonded (a0 : Bank) : Tr (Bank) :=
  (.leaf a0)
def sh_bank_bonded (a0 : Bank) : Option (Bank) := (T_bank_bonded a0).run
def zr16 : LQ (Bank) := (LQ.skip (LQ.const (.ptr 0 0)) (LP.q bankL))
def qr_bank_bonded : LQ (Bank) := (LQ.skip (LQ.const (.ptr 0 4)) (LP.q bankL))
def F_bank_bonded : SpecT := specF 1 zr16 1 [.cells 24 7] (fun s => T_bank_bonded s) default qr_bank_bonded 1 [.cells 24 7]
theorem ok_bank_bonded : SpecOk Tryz.prog 150 (F_bank_bonded).spec :=
  specF_ok (A := za16) zh16 Facts.mix Tryz.func150 (c := zc16) (by kernel_rfl) (Lc := 1) trivial zr16 1 3 [.cells 24 7] (fun s => T_bank_bonded s) default qr_bank_bonded 1 [.cells 24 7] [] (by decide) (by kernel_rfl) (by rfl) (by decide) (by decide) (by rfl)
    (by rintro a0; kernel_rfl)

noncomputable def zc17 : Code := Tryz.f146.body.getD .skip
def zv17 : List (List Nat) := [[0], [2]]
noncomputable def zy17 : EnvT := ⟨Tryz.prog, lookT []⟩
theorem zh17 : (zy17).Ok := lookT_ok trivial
def za17 : Ann := ⟨[], [], [], zv17, []⟩
def T_bank_waiting (a0 : Bank) : Tr (Bank) :=
  (.leaf a0)
def sh_bank_waiting (a0 : Bank) : Option (Bank) := (T_bank_waiting a0).run
def zr17 : LQ (Bank) := (LQ.skip (LQ.const (.ptr 0 0)) (LP.q bankL))
def qr_bank_waiting : LQ (Bank) := (LQ.skip (LQ.const (.ptr 0 5)) (LP.q bankL))
def F_bank_waiting : SpecT := specF 1 zr17 1 [.cells 24 7] (fun s => T_bank_waiting s) default qr_bank_waiting 1 [.cells 24 7]
theorem ok_bank_waiting : SpecOk Tryz.prog 146 (F_bank_waiting).spec :=
  specF_ok (A := za17) zh17 Facts.mix Tryz.func146 (c := zc17) (by kernel_rfl) (Lc := 1) trivial zr17 1 3 [.cells 24 7] (fun s => T_bank_waiting s) default qr_bank_waiting 1 [.cells 24 7] [] (by decide) (by kernel_rfl) (by rfl) (by decide) (by decide) (by rfl)
    (by rintro a0; kernel_rfl)

noncomputable def zc18 : Code := Tryz.f151.body.getD .skip
def zv18 : List (List Nat) := [[0], [2]]
noncomputable def zy18 : EnvT := ⟨Tryz.prog, lookT []⟩
theorem zh18 : (zy18).Ok := lookT_ok trivial
def za18 : Ann := ⟨[], [], [], zv18, []⟩
def T_bank_burnt (a0 : Bank) : Tr (Bank) :=
  (.leaf a0)
def sh_bank_burnt (a0 : Bank) : Option (Bank) := (T_bank_burnt a0).run
def zr18 : LQ (Bank) := (LQ.skip (LQ.const (.ptr 0 0)) (LP.q bankL))
def qr_bank_burnt : LQ (Bank) := (LQ.skip (LQ.const (.ptr 0 6)) (LP.q bankL))
def F_bank_burnt : SpecT := specF 1 zr18 1 [.cells 24 7] (fun s => T_bank_burnt s) default qr_bank_burnt 1 [.cells 24 7]
theorem ok_bank_burnt : SpecOk Tryz.prog 151 (F_bank_burnt).spec :=
  specF_ok (A := za18) zh18 Facts.mix Tryz.func151 (c := zc18) (by kernel_rfl) (Lc := 1) trivial zr18 1 3 [.cells 24 7] (fun s => T_bank_burnt s) default qr_bank_burnt 1 [.cells 24 7] [] (by decide) (by kernel_rfl) (by rfl) (by decide) (by decide) (by rfl)
    (by rintro a0; kernel_rfl)

noncomputable def zc19 : Code := Tryz.f145.body.getD .skip
def zv19 : List (List Nat) := [[1, 2, 3, 4, 8], [1, 2, 3, 4, 8, 10], [8, 9], [1, 2, 3, 4, 8, 20], [8, 9], [2, 3, 4, 8], [4, 8], [8, 9]]
noncomputable def zy19 : EnvT := ⟨Tryz.prog, lookT [(116, F_bank_Good), (117, F_ratio_In), (179, F_bank_free_1), (150, F_bank_bonded)]⟩
theorem zh19 : (zy19).Ok := lookT_ok ⟨ok_bank_Good, ok_ratio_In, ok_bank_free_1, ok_bank_bonded, trivial⟩
def za19 : Ann := ⟨[], [], [], zv19, []⟩
def T_bank_move_0 (a0 : Bank) (a1 : Int) (a2 : Int) : Tr (Bank × Int × Int) :=
  (.bind (sh_bank_Good a0) fun v1 =>
  (.guard (((!v1) = false → ((sh_ratio_In a1).isSome = true) ∧ True))
  (.ite ((!v1) || (!((sh_ratio_In a1).getD default)))
    (.leaf (a0, 2, a2))
    (.bind (sh_bank_free_1 a0 a2) fun v2 =>
    (.ite (decide ((v2.2.1.Free.get v2.1) < a1))
      (.leaf (v2.2.1, 7, v2.2.2))
      (.bind (sh_bank_free_1 v2.2.1 v2.2.2) fun v3 =>
      (.bind (sh_bank_bonded ({ (v3.2.1 : Bank) with Free := (v3.2.1.Free.set v3.1 (IntKind.i64.wrap ((v3.2.1.Free.get v3.1) - a1))) })) fun v4 =>
      (.leaf ({ (v4 : Bank) with Bonded := IntKind.i64.wrap (v4.Bonded + a1) }, 0, v3.2.2)))))))))
def sh_bank_move_0 (a0 : Bank) (a1 : Int) (a2 : Int) : Option (Bank × Int × Int) := (T_bank_move_0 a0 a1 a2).run
def zr19 : LQ (Bank × Int × Int) := (LQ.seq (Par.q (Par.ofLP bankL)) (LQ.skip (LQ.const (.fn 179 [.ptr 0 0])) (LQ.skip (LQ.const (.fn 150 [])) (LQ.seq (Par.q intP) (Par.q intP)))))
def qr_bank_move_0 : LQ (Bank × Int × Int) := (LQ.seq (Par.q (Par.ofLP bankL)) (LQ.seq (Par.q intP) (Par.q intP)))
def F_bank_move_0 : SpecT := specF 1 zr19 4 [.cells 3 1] (fun s => T_bank_move_0 s.1 s.2.1 s.2.2) default qr_bank_move_0 2 [.cells 3 1]
theorem ok_bank_move_0 : SpecOk Tryz.prog 145 (F_bank_move_0).spec :=
  specF_ok (A := za19) zh19 Facts.mix Tryz.func145 (c := zc19) (by kernel_rfl) (Lc := 1) trivial zr19 4 5 [.cells 3 1] (fun s => T_bank_move_0 s.1 s.2.1 s.2.2) default qr_bank_move_0 2 [.cells 3 1] [] (by decide) (by kernel_rfl) (by rfl) (by decide) (by decide) (by rfl)
    (by rintro ⟨a0, a1, a2⟩; kernel_rfl)

noncomputable def zc20 : Code := Tryz.f145.body.getD .skip
def zv20 : List (List Nat) := [[1, 2, 3, 4, 8], [1, 2, 3, 4, 8, 10], [8, 9], [1, 2, 3, 4, 8, 20], [8, 9], [2, 3, 4, 8], [4, 8], [8, 9]]
noncomputable def zy20 : EnvT := ⟨Tryz.prog, lookT [(116, F_bank_Good), (117, F_ratio_In), (150, F_bank_bonded), (146, F_bank_waiting)]⟩
theorem zh20 : (zy20).Ok := lookT_ok ⟨ok_bank_Good, ok_ratio_In, ok_bank_bonded, ok_bank_waiting, trivial⟩
def za20 : Ann := ⟨[], [], [], zv20, []⟩
def T_bank_move_1 (a0 : Bank) (a1 : Int) : Tr (Bank × Int) :=
  (.bind (sh_bank_Good a0) fun v1 =>
  (.guard (((!v1) = false → ((sh_ratio_In a1).isSome = true) ∧ True))
  (.ite ((!v1) || (!((sh_ratio_In a1).getD default)))
    (.leaf (a0, 2))
    (.bind (sh_bank_bonded a0) fun v2 =>
    (.ite (decide (v2.Bonded < a1))
      (.leaf (v2, 7))
      (.bind (sh_bank_bonded v2) fun v3 =>
      (.bind (sh_bank_waiting ({ (v3 : Bank) with Bonded := IntKind.i64.wrap (v3.Bonded - a1) })) fun v4 =>
      (.leaf ({ (v4 : Bank) with Waiting := IntKind.i64.wrap (v4.Waiting + a1) }, 0)))))))))
def sh_bank_move_1 (a0 : Bank) (a1 : Int) : Option (Bank × Int) := (T_bank_move_1 a0 a1).run
def zr20 : LQ (Bank × Int) := (LQ.seq (Par.q (Par.ofLP bankL)) (LQ.skip (LQ.const (.fn 150 [])) (LQ.skip (LQ.const (.fn 146 [])) (Par.q intP))))
def qr_bank_move_1 : LQ (Bank × Int) := (LQ.seq (Par.q (Par.ofLP bankL)) (Par.q intP))
def F_bank_move_1 : SpecT := specF 0 zr20 4 [] (fun s => T_bank_move_1 s.1 s.2) default qr_bank_move_1 2 []
theorem ok_bank_move_1 : SpecOk Tryz.prog 145 (F_bank_move_1).spec :=
  specF_ok (A := za20) zh20 Facts.mix Tryz.func145 (c := zc20) (by kernel_rfl) (Lc := 0) trivial zr20 4 4 [] (fun s => T_bank_move_1 s.1 s.2) default qr_bank_move_1 2 [] [] (by decide) (by kernel_rfl) (by rfl) (by decide) (by decide) (by rfl)
    (by rintro ⟨a0, a1⟩; kernel_rfl)

noncomputable def zc21 : Code := Tryz.f145.body.getD .skip
def zv21 : List (List Nat) := [[1, 2, 3, 4, 8], [1, 2, 3, 4, 8, 10], [8, 9], [1, 2, 3, 4, 8, 20], [8, 9], [2, 3, 4, 8], [4, 8], [8, 9]]
noncomputable def zy21 : EnvT := ⟨Tryz.prog, lookT [(116, F_bank_Good), (117, F_ratio_In), (146, F_bank_waiting), (179, F_bank_free_1)]⟩
theorem zh21 : (zy21).Ok := lookT_ok ⟨ok_bank_Good, ok_ratio_In, ok_bank_waiting, ok_bank_free_1, trivial⟩
def za21 : Ann := ⟨[], [], [], zv21, []⟩
def T_bank_move_2 (a0 : Bank) (a1 : Int) (a2 : Int) : Tr (Bank × Int × Int) :=
  (.bind (sh_bank_Good a0) fun v1 =>
  (.guard (((!v1) = false → ((sh_ratio_In a1).isSome = true) ∧ True))
  (.ite ((!v1) || (!((sh_ratio_In a1).getD default)))
    (.leaf (a0, 2, a2))
    (.bind (sh_bank_waiting a0) fun v2 =>
    (.ite (decide (v2.Waiting < a1))
      (.leaf (v2, 7, a2))
      (.bind (sh_bank_waiting v2) fun v3 =>
      (.bind (sh_bank_free_1 ({ (v3 : Bank) with Waiting := IntKind.i64.wrap (v3.Waiting - a1) }) a2) fun v4 =>
      (.leaf ({ (v4.2.1 : Bank) with Free := (v4.2.1.Free.set v4.1 (IntKind.i64.wrap ((v4.2.1.Free.get v4.1) + a1))) }, 0, v4.2.2)))))))))
def sh_bank_move_2 (a0 : Bank) (a1 : Int) (a2 : Int) : Option (Bank × Int × Int) := (T_bank_move_2 a0 a1 a2).run
def zr21 : LQ (Bank × Int × Int) := (LQ.seq (Par.q (Par.ofLP bankL)) (LQ.skip (LQ.const (.fn 146 [])) (LQ.skip (LQ.const (.fn 179 [.ptr 0 0])) (LQ.seq (Par.q intP) (Par.q intP)))))
def qr_bank_move_2 : LQ (Bank × Int × Int) := (LQ.seq (Par.q (Par.ofLP bankL)) (LQ.seq (Par.q intP) (Par.q intP)))
def F_bank_move_2 : SpecT := specF 1 zr21 4 [.cells 3 1] (fun s => T_bank_move_2 s.1 s.2.1 s.2.2) default qr_bank_move_2 2 [.cells 3 1]
theorem ok_bank_move_2 : SpecOk Tryz.prog 145 (F_bank_move_2).spec :=
  specF_ok (A := za21) zh21 Facts.mix Tryz.func145 (c := zc21) (by kernel_rfl) (Lc := 1) trivial zr21 4 5 [.cells 3 1] (fun s => T_bank_move_2 s.1 s.2.1 s.2.2) default qr_bank_move_2 2 [.cells 3 1] [] (by decide) (by kernel_rfl) (by rfl) (by decide) (by decide) (by rfl)
    (by rintro ⟨a0, a1, a2⟩; kernel_rfl)

noncomputable def zc22 : Code := Tryz.f145.body.getD .skip
def zv22 : List (List Nat) := [[1, 2, 3, 4, 8], [1, 2, 3, 4, 8, 10], [8, 9], [1, 2, 3, 4, 8, 20], [8, 9], [2, 3, 4, 8], [4, 8], [8, 9]]
noncomputable def zy22 : EnvT := ⟨Tryz.prog, lookT [(116, F_bank_Good), (117, F_ratio_In), (150, F_bank_bonded), (151, F_bank_burnt)]⟩
theorem zh22 : (zy22).Ok := lookT_ok ⟨ok_bank_Good, ok_ratio_In, ok_bank_bonded, ok_bank_burnt, trivial⟩
def za22 : Ann := ⟨[], [], [], zv22, []⟩
def T_bank_move_3 (a0 : Bank) (a1 : Int) : Tr (Bank × Int) :=
  (.bind (sh_bank_Good a0) fun v1 =>
  (.guard (((!v1) = false → ((sh_ratio_In a1).isSome = true) ∧ True))
  (.ite ((!v1) || (!((sh_ratio_In a1).getD default)))
    (.leaf (a0, 2))
    (.bind (sh_bank_bonded a0) fun v2 =>
    (.ite (decide (v2.Bonded < a1))
      (.leaf (v2, 7))
      (.bind (sh_bank_bonded v2) fun v3 =>
      (.bind (sh_bank_burnt ({ (v3 : Bank) with Bonded := IntKind.i64.wrap (v3.Bonded - a1) })) fun v4 =>
      (.leaf ({ (v4 : Bank) with Burnt := IntKind.i64.wrap (v4.Burnt + a1) }, 0)))))))))
def sh_bank_move_3 (a0 : Bank) (a1 : Int) : Option (Bank × Int) := (T_bank_move_3 a0 a1).run
def zr22 : LQ (Bank × Int) := (LQ.seq (Par.q (Par.ofLP bankL)) (LQ.skip (LQ.const (.fn 150 [])) (LQ.skip (LQ.const (.fn 151 [])) (Par.q intP))))
def qr_bank_move_3 : LQ (Bank × Int) := (LQ.seq (Par.q (Par.ofLP bankL)) (Par.q intP))
def F_bank_move_3 : SpecT := specF 0 zr22 4 [] (fun s => T_bank_move_3 s.1 s.2) default qr_bank_move_3 2 []
theorem ok_bank_move_3 : SpecOk Tryz.prog 145 (F_bank_move_3).spec :=
  specF_ok (A := za22) zh22 Facts.mix Tryz.func145 (c := zc22) (by kernel_rfl) (Lc := 0) trivial zr22 4 4 [] (fun s => T_bank_move_3 s.1 s.2) default qr_bank_move_3 2 [] [] (by decide) (by kernel_rfl) (by rfl) (by decide) (by decide) (by rfl)
    (by rintro ⟨a0, a1⟩; kernel_rfl)

noncomputable def zc23 : Code := Tryz.f145.body.getD .skip
def zv23 : List (List Nat) := [[1, 2, 3, 4, 8], [1, 2, 3, 4, 8, 10], [8, 9], [1, 2, 3, 4, 8, 20], [8, 9], [2, 3, 4, 8], [4, 8], [8, 9]]
noncomputable def zy23 : EnvT := ⟨Tryz.prog, lookT [(116, F_bank_Good), (117, F_ratio_In), (146, F_bank_waiting), (151, F_bank_burnt)]⟩
theorem zh23 : (zy23).Ok := lookT_ok ⟨ok_bank_Good, ok_ratio_In, ok_bank_waiting, ok_bank_burnt, trivial⟩
def za23 : Ann := ⟨[], [], [], zv23, []⟩
def T_bank_move_4 (a0 : Bank) (a1 : Int) : Tr (Bank × Int) :=
  (.bind (sh_bank_Good a0) fun v1 =>
  (.guard (((!v1) = false → ((sh_ratio_In a1).isSome = true) ∧ True))
  (.ite ((!v1) || (!((sh_ratio_In a1).getD default)))
    (.leaf (a0, 2))
    (.bind (sh_bank_waiting a0) fun v2 =>
    (.ite (decide (v2.Waiting < a1))
      (.leaf (v2, 7))
      (.bind (sh_bank_waiting v2) fun v3 =>
      (.bind (sh_bank_burnt ({ (v3 : Bank) with Waiting := IntKind.i64.wrap (v3.Waiting - a1) })) fun v4 =>
      (.leaf ({ (v4 : Bank) with Burnt := IntKind.i64.wrap (v4.Burnt + a1) }, 0)))))))))
def sh_bank_move_4 (a0 : Bank) (a1 : Int) : Option (Bank × Int) := (T_bank_move_4 a0 a1).run
def zr23 : LQ (Bank × Int) := (LQ.seq (Par.q (Par.ofLP bankL)) (LQ.skip (LQ.const (.fn 146 [])) (LQ.skip (LQ.const (.fn 151 [])) (Par.q intP))))
def qr_bank_move_4 : LQ (Bank × Int) := (LQ.seq (Par.q (Par.ofLP bankL)) (Par.q intP))
def F_bank_move_4 : SpecT := specF 0 zr23 4 [] (fun s => T_bank_move_4 s.1 s.2) default qr_bank_move_4 2 []
theorem ok_bank_move_4 : SpecOk Tryz.prog 145 (F_bank_move_4).spec :=
  specF_ok (A := za23) zh23 Facts.mix Tryz.func145 (c := zc23) (by kernel_rfl) (Lc := 0) trivial zr23 4 4 [] (fun s => T_bank_move_4 s.1 s.2) default qr_bank_move_4 2 [] [] (by decide) (by kernel_rfl) (by rfl) (by decide) (by decide) (by rfl)
    (by rintro ⟨a0, a1⟩; kernel_rfl)

def F_bank_move : SpecT := altT F_bank_move_0 (altT F_bank_move_1 (altT F_bank_move_2 (altT F_bank_move_3 (F_bank_move_4))))
theorem ok_bank_move : SpecOk Tryz.prog 145 (F_bank_move).spec := altT_ok ok_bank_move_0 (altT_ok ok_bank_move_1 (altT_ok ok_bank_move_2 (altT_ok ok_bank_move_3 (ok_bank_move_4))))

noncomputable def zc25 : Code := Tryz.f129.body.getD .skip
def zv25 : List (List Nat) := [[1, 2, 3, 6], [1, 2, 3, 6, 10], [6, 7], [6, 7]]
noncomputable def zy25 : EnvT := ⟨Tryz.prog, lookT [(144, F_bank_delegator), (147, F_bank_free), (145, F_bank_move)]⟩
theorem zh25 : (zy25).Ok := lookT_ok ⟨ok_bank_delegator, ok_bank_free, ok_bank_move, trivial⟩
def za25 : Ann := ⟨[], [], [], zv25, []⟩
def T_bank_Bond (a0 : Bank) (a1 : Int) (a2 : Int) : Tr (Bank × Int) :=
  (.bind (sh_bank_delegator a1) fun v1 =>
  (.ite (!v1)
    (.leaf (a0, 4))
    (.guard ((sh_bank_free a1).isSome = true)
    (.guard ((sh_bank_move_0 a0 a2 ((sh_bank_free a1).getD default)).isSome = true)
    (.leaf ((((sh_bank_move_0 a0 a2 ((sh_bank_free a1).getD default)).getD default).1), ((sh_bank_move_0 a0 a2 ((sh_bank_free a1).getD default)).getD default).2.1))))))
def sh_bank_Bond (a0 : Bank) (a1 : Int) (a2 : Int) : Option (Bank × Int) := (T_bank_Bond a0 a1 a2).run
def zr25 : LQ (Bank × Int × Int) := (LQ.seq (Par.q (Par.ofLP bankL)) (LQ.seq (Par.q intP) (Par.q intP)))
def qr_bank_Bond : LQ (Bank × Int) := (LQ.seq (Par.q (Par.ofLP bankL)) (Par.q intP))
def F_bank_Bond : SpecT := specF 0 zr25 3 [] (fun s => T_bank_Bond s.1 s.2.1 s.2.2) default qr_bank_Bond 2 []
theorem ok_bank_Bond : SpecOk Tryz.prog 129 (F_bank_Bond).spec :=
  specF_ok (A := za25) zh25 Facts.mix Tryz.func129 (c := zc25) (by kernel_rfl) (Lc := 0) trivial zr25 3 5 [] (fun s => T_bank_Bond s.1 s.2.1 s.2.2) default qr_bank_Bond 2 [] [] (by decide) (by kernel_rfl) (by rfl) (by decide) (by decide) (by rfl)
    (by rintro ⟨a0, a1, a2⟩; kernel_rfl)

noncomputable def zc27 : Code := Tryz.f102.body.getD .skip
def zv27 : List (List Nat) := [[1, 2, 3, 6], [1, 2, 3, 6, 10], [6, 7], [6, 7]]
noncomputable def zy27 : EnvT := ⟨Tryz.prog, lookT [(144, F_bank_delegator), (147, F_bank_free), (145, F_bank_move)]⟩
theorem zh27 : (zy27).Ok := lookT_ok ⟨ok_bank_delegator, ok_bank_free, ok_bank_move, trivial⟩
def za27 : Ann := ⟨[], [], [], zv27, []⟩
def T_bank_Pay (a0 : Bank) (a1 : Int) (a2 : Int) : Tr (Bank × Int) :=
  (.bind (sh_bank_delegator a1) fun v1 =>
  (.ite (!v1)
    (.leaf (a0, 4))
    (.guard ((sh_bank_free a1).isSome = true)
    (.guard ((sh_bank_move_2 a0 a2 ((sh_bank_free a1).getD default)).isSome = true)
    (.leaf ((((sh_bank_move_2 a0 a2 ((sh_bank_free a1).getD default)).getD default).1), ((sh_bank_move_2 a0 a2 ((sh_bank_free a1).getD default)).getD default).2.1))))))
def sh_bank_Pay (a0 : Bank) (a1 : Int) (a2 : Int) : Option (Bank × Int) := (T_bank_Pay a0 a1 a2).run
def zr27 : LQ (Bank × Int × Int) := (LQ.seq (Par.q (Par.ofLP bankL)) (LQ.seq (Par.q intP) (Par.q intP)))
def qr_bank_Pay : LQ (Bank × Int) := (LQ.seq (Par.q (Par.ofLP bankL)) (Par.q intP))
def F_bank_Pay : SpecT := specF 0 zr27 3 [] (fun s => T_bank_Pay s.1 s.2.1 s.2.2) default qr_bank_Pay 2 []
theorem ok_bank_Pay : SpecOk Tryz.prog 102 (F_bank_Pay).spec :=
  specF_ok (A := za27) zh27 Facts.mix Tryz.func102 (c := zc27) (by kernel_rfl) (Lc := 0) trivial zr27 3 5 [] (fun s => T_bank_Pay s.1 s.2.1 s.2.2) default qr_bank_Pay 2 [] [] (by decide) (by kernel_rfl) (by rfl) (by decide) (by decide) (by rfl)
    (by rintro ⟨a0, a1, a2⟩; kernel_rfl)

noncomputable def zc28 : Code := Tryz.f111.body.getD .skip
def zv28 : List (List Nat) := [[1, 2, 3, 6], [2, 3, 6, 8, 9], [2, 3, 6, 8, 9, 17], [6, 7], [3, 6, 8, 9], [3, 6, 8, 9, 27], [6, 7], [6, 7]]
noncomputable def zy28 : EnvT := ⟨Tryz.prog, lookT [(145, F_bank_move)]⟩
theorem zh28 : (zy28).Ok := lookT_ok ⟨ok_bank_move, trivial⟩
def za28 : Ann := ⟨[], [], [], zv28, []⟩
def T_bank_Burn (a0 : Bank) (a1 : Int) (a2 : Int) : Tr (Bank × Int) :=
  (.bind (sh_bank_move_3 a0 a1) fun v4 =>
  (.ite (v4.2 != 0)
    (.leaf (a0, v4.2))
    (.bind (sh_bank_move_4 v4.1 a2) fun v9 =>
    (.ite (v9.2 != 0)
      (.leaf (a0, v9.2))
      (.leaf (v9.1, 0))))))
def sh_bank_Burn (a0 : Bank) (a1 : Int) (a2 : Int) : Option (Bank × Int) := (T_bank_Burn a0 a1 a2).run
def zr28 : LQ (Bank × Int × Int) := (LQ.seq (Par.q (Par.ofLP bankL)) (LQ.seq (Par.q intP) (Par.q intP)))
def qr_bank_Burn : LQ (Bank × Int) := (LQ.seq (Par.q (Par.ofLP bankL)) (Par.q intP))
def F_bank_Burn : SpecT := specF 0 zr28 3 [] (fun s => T_bank_Burn s.1 s.2.1 s.2.2) default qr_bank_Burn 2 []
theorem ok_bank_Burn : SpecOk Tryz.prog 111 (F_bank_Burn).spec :=
  specF_ok (A := za28) zh28 Facts.mix Tryz.func111 (c := zc28) (by kernel_rfl) (Lc := 0) trivial zr28 3 5 [] (fun s => T_bank_Burn s.1 s.2.1 s.2.2) default qr_bank_Burn 2 [] [] (by decide) (by kernel_rfl) (by rfl) (by decide) (by decide) (by rfl)
    (by rintro ⟨a0, a1, a2⟩; kernel_rfl)

noncomputable def zc38 : Code := Tryz.f137.body.getD .skip
def zv38 : List (List Nat) := [[0], [2]]
noncomputable def zy38 : EnvT := ⟨Tryz.prog, lookT []⟩
theorem zh38 : (zy38).Ok := lookT_ok trivial
def za38 : Ann := ⟨[], [], [], zv38, []⟩
def T_meter_Allowance (a0 : Int) : Tr (Int) :=
  (.guard ((5 : Int) ≠ 0)
  (.leaf (if (IntKind.i64.wrap (Int.tdiv a0 5)) > 1 then (IntKind.i64.wrap (Int.tdiv a0 5)) else 1)))
def sh_meter_Allowance (a0 : Int) : Option (Int) := (T_meter_Allowance a0).run
def zr38 : LQ (Int) := (Par.q intP)
def qr_meter_Allowance : LQ (Int) := (Par.q intP)
def F_meter_Allowance : SpecT := specF 0 zr38 1 [] (fun s => T_meter_Allowance s) default qr_meter_Allowance 1 []
theorem ok_meter_Allowance : SpecOk Tryz.prog 137 (F_meter_Allowance).spec :=
  specF_ok (A := za38) zh38 Facts.mix Tryz.func137 (c := zc38) (by kernel_rfl) (Lc := 0) trivial zr38 1 2 [] (fun s => T_meter_Allowance s) default qr_meter_Allowance 1 [] [] (by decide) (by kernel_rfl) (by rfl) (by decide) (by decide) (by rfl)
    (by rintro a0; kernel_rfl)

noncomputable def zc39 : Code := Tryz.f94.body.getD .skip
def zv39 : List (List Nat) := [[0, 1, 4], [4]]
noncomputable def zy39 : EnvT := ⟨Tryz.prog, lookT [(137, F_meter_Allowance)]⟩
theorem zh39 : (zy39).Ok := lookT_ok ⟨ok_meter_Allowance, trivial⟩
def za39 : Ann := ⟨[], [], [], zv39, []⟩
def T_meter_New (a0 : Int) (a1 : Int) : Tr (Meter) :=
  (.bind (sh_meter_Allowance a0) fun v1 =>
  (.leaf (⟨v1, IntKind.i64.wrap (a1 + 10)⟩ : Meter)))
def sh_meter_New (a0 : Int) (a1 : Int) : Option (Meter) := (T_meter_New a0 a1).run
def zr39 : LQ (Int × Int) := (LQ.seq (Par.q intP) (Par.q intP))
def qr_meter_New : LQ (Meter) := (Par.q (Par.ofLP meterL))
def F_meter_New : SpecT := specF 0 zr39 2 [] (fun s => T_meter_New s.1 s.2) default qr_meter_New 1 []
theorem ok_meter_New : SpecOk Tryz.prog 94 (F_meter_New).spec :=
  specF_ok (A := za39) zh39 Facts.mix Tryz.func94 (c := zc39) (by kernel_rfl) (Lc := 0) trivial zr39 2 3 [] (fun s => T_meter_New s.1 s.2) default qr_meter_New 1 [] [] (by decide) (by kernel_rfl) (by rfl) (by decide) (by decide) (by rfl)
    (by rintro ⟨a0, a1⟩; kernel_rfl)

noncomputable def zc40 : Code := Tryz.f43.body.getD .skip
def zv40 : List (List Nat) := [[1, 2, 3, 6], [1, 2, 3, 6, 10], [6], [6]]
noncomputable def zy40 : EnvT := ⟨Tryz.prog, lookT [(94, F_meter_New)]⟩
theorem zh40 : (zy40).Ok := lookT_ok ⟨ok_meter_New, trivial⟩
def za40 : Ann := ⟨[], [], [], zv40, []⟩
def T_meter_Tick (a0 : Meter) (a1 : Int) (a2 : Int) : Tr (Meter) :=
  (.ite (decide (a2 ≥ a0.Next))
    (.bind (sh_meter_New a1 a2) fun v1 =>
    (.leaf v1))
    (.leaf a0))
def sh_meter_Tick (a0 : Meter) (a1 : Int) (a2 : Int) : Option (Meter) := (T_meter_Tick a0 a1 a2).run
def zr40 : LQ (Meter × Int × Int) := (LQ.seq (Par.q (Par.ofLP meterL)) (LQ.seq (Par.q intP) (Par.q intP)))
def qr_meter_Tick : LQ (Meter) := (Par.q (Par.ofLP meterL))
def F_meter_Tick : SpecT := specF 0 zr40 3 [] (fun s => T_meter_Tick s.1 s.2.1 s.2.2) default qr_meter_Tick 1 []
theorem ok_meter_Tick : SpecOk Tryz.prog 43 (F_meter_Tick).spec :=
  specF_ok (A := za40) zh40 Facts.mix Tryz.func43 (c := zc40) (by kernel_rfl) (Lc := 0) trivial zr40 3 4 [] (fun s => T_meter_Tick s.1 s.2.1 s.2.2) default qr_meter_Tick 1 [] [] (by decide) (by kernel_rfl) (by rfl) (by decide) (by decide) (by rfl)
    (by rintro ⟨a0, a1, a2⟩; kernel_rfl)

noncomputable def zc41 : Code := Tryz.f97.body.getD .skip
def zv41 : List (List Nat) := [[1, 2, 4], [1, 2, 4, 8], [4, 5], [2, 4], [4, 5]]
noncomputable def zy41 : EnvT := ⟨Tryz.prog, lookT []⟩
theorem zh41 : (zy41).Ok := lookT_ok trivial
def za41 : Ann := ⟨[], [], [], zv41, []⟩
def T_meter_Take (a0 : Meter) (a1 : Int) : Tr (Meter × Bool) :=
  (.ite (decide (a0.Left ≤ 0))
    (.leaf (a0, false))
    (.leaf ((⟨IntKind.i64.wrap (a0.Left - a1), a0.Next⟩ : Meter), true)))
def sh_meter_Take (a0 : Meter) (a1 : Int) : Option (Meter × Bool) := (T_meter_Take a0 a1).run
def zr41 : LQ (Meter × Int) := (LQ.seq (Par.q (Par.ofLP meterL)) (Par.q intP))
def qr_meter_Take : LQ (Meter × Bool) := (LQ.seq (Par.q (Par.ofLP meterL)) (Par.q boolP))
def F_meter_Take : SpecT := specF 0 zr41 2 [] (fun s => T_meter_Take s.1 s.2) default qr_meter_Take 2 []
theorem ok_meter_Take : SpecOk Tryz.prog 97 (F_meter_Take).spec :=
  specF_ok (A := za41) zh41 Facts.mix Tryz.func97 (c := zc41) (by kernel_rfl) (Lc := 0) trivial zr41 2 4 [] (fun s => T_meter_Take s.1 s.2) default qr_meter_Take 2 [] [] (by decide) (by kernel_rfl) (by rfl) (by decide) (by decide) (by rfl)
    (by rintro ⟨a0, a1⟩; kernel_rfl)

end
end Go.Proofs.YtknbejjfejdppaaGreat.Ab
