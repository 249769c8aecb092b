/-
  The functions, each by its tree.
-/
import Derived.Test.YtknbejjfejdppaaGreatFacts
import Derived.Test.YtknbejjfejdppaaGreatAbStructs
import Derived.Test.YtknbejjfejdppaaGreatAbFun
import Derived.Test.YtknbejjfejdppaaGreatFRatio
import Derived.Test.YtknbejjfejdppaaGreatFBank
import Derived.Test.YtknbejjfejdppaaGreatAbSort2
namespace Go.Proofs.YtknbejjfejdppaaGreat.Ab
open Go Go.RowKit
set_option maxRecDepth 100000
set_option linter.unusedVariables false
set_option linter.unusedSimpArgs false
noncomputable section

noncomputable def zc87 : Code := Tryz.f77.body.getD .skip
def zv87 : List (List Nat) := [[0, 1], [1, 7, 8, 9], [1, 7, 8, 9, 10], [1, 6, 7, 8, 9], [1, 6, 7, 8, 9, 16], [4], [1, 7, 8, 9], [4]]
noncomputable def zy87 : EnvT := ⟨Tryz.prog, lookT []⟩
theorem zh87 : (zy87).Ok := lookT_ok trivial
def T_stake_find_l1 (x0 : Int) (x1 : (List Power)) (x2 : Int) (x3 : Int) : Tr ((Int × (List Power) × Int × Int) ⊕ ((Int) ⊕ (Unit))) :=
  (.ite (decide (x3 < x2))
    (.guard ((0 : Int) ≤ x3 ∧ x3 < ((Sl.len (.powers x1) : Nat) : Int))
    (.ite (((x1.getD x3.toNat default).V) == x0)
      (.leaf (.inr (.inl ((x1.getD x3.toNat default).N))))
      (.leaf (.inl (x0, x1, x2, IntKind.i64.wrap (x3 + 1))))))
    (.leaf (.inr (.inr ()))))
def sh_stake_find_l1 (x0 : Int) (x1 : (List Power)) (x2 : Int) (x3 : Int) : Option ((Int) ⊕ (Unit)) := iter (fun s : Int × (List Power) × Int × Int => (T_stake_find_l1 s.1 s.2.1 s.2.2.1 s.2.2.2).run) (x0, x1, x2, x3)
def za87a : Ann := ⟨[], [], [], zv87, []⟩
def zq87a : EndD (Int × (List Power) × Int × Int) := ⟨(LQ.seq (Par.q intP) (LQ.seq (Par.q powersP) (LQ.seq (Par.q intP) (Par.q intP)))), ⟨[1, 7, 8, 9], [.pub 7, .nilsl 7 (.powers [])]⟩, []⟩
def zq87ae0 : EndD (Int) := ⟨(Par.q intP), ⟨[4], []⟩, []⟩
def zq87ae1 : EndD (Unit) := ⟨LQ.nil, ⟨[], []⟩, []⟩
def zl87a : St → Option LR := L2 20 3 0 zq87a .ret zq87ae0 (.exit 0) zq87ae1 (fun s => T_stake_find_l1 s.1 s.2.1 s.2.2.1 s.2.2.2)
theorem zk87a : PieceOk (zy87).env 0 (sub zc87 [0, 1, 0, 1]) zl87a :=
  loop2 (A := za87a) zh87 Facts.mix trivial (k := loopB (sub zc87 [0, 1, 0, 1])) (by kernel_rfl) rfl rfl (by rintro ⟨x0, x1, x2, x3⟩; kernel_rfl)
def za87 : Ann := ⟨[([0, 1, 0, 1], zl87a)], [], [], zv87, []⟩
def T_stake_find (a0 : (List Power)) (a1 : Int) : Tr (Int) :=
  (.two (sh_stake_find_l1 a1 a0 ((a0.length : Nat) : Int) 0) (fun v1 =>
    (.leaf v1)) (fun v2 =>
    (.leaf 0)))
def sh_stake_find (a0 : (List Power)) (a1 : Int) : Option (Int) := (T_stake_find a0 a1).run
def zr87 : LQ ((List Power) × Int) := (LQ.seq (Par.q powersP) (Par.q intP))
def qr_stake_find : LQ (Int) := (Par.q intP)
def F_stake_find : SpecT := specF 0 zr87 2 [] (fun s => T_stake_find s.1 s.2) default qr_stake_find 1 []
theorem ok_stake_find : SpecOk Tryz.prog 77 (F_stake_find).spec :=
  specF_ok (A := za87) zh87 Facts.mix Tryz.func77 (c := zc87) (by kernel_rfl) (Lc := 0) ⟨zk87a, trivial⟩ zr87 2 3 [] (fun s => T_stake_find s.1 s.2) default qr_stake_find 1 [] [] (by decide) (by kernel_rfl) (by rfl) (by decide) (by decide) (by rfl)
    (by rintro ⟨a0, a1⟩; kernel_rfl)

noncomputable def zc88 : Code := Tryz.f103.body.getD .skip
def zv88 : List (List Nat) := [[0, 1], [0, 1, 5], [0, 1, 5, 8], [0, 1, 5, 8, 9], [0, 1, 5, 6, 8], [0, 1, 5, 6, 7, 8], [0, 1, 5, 6, 7, 8, 18], [0, 1, 5, 8], [0, 1, 5, 8], [4]]
noncomputable def zy88 : EnvT := ⟨Tryz.prog, lookT [(77, F_stake_find)]⟩
theorem zh88 : (zy88).Ok := lookT_ok ⟨ok_stake_find, trivial⟩
def T_stake_Diff_l1 (x0 : (List Power)) (x1 : (List Power)) (x2 : Int) (x3 : (List Power)) : Tr (((List Power) × (List Power) × Int × (List Power)) ⊕ ((List Power))) :=
  (.ite (decide (x2 < 6))
    (.bind (sh_stake_find x1 x2) fun v1 =>
    (.bind (sh_stake_find x0 x2) fun v2 =>
    (.ite (v1 != v2)
      (.guard ((Sl.len (.powers x3) + Sl.len (.powers [(⟨x2, v1⟩ : Power)])) * 16 ≤ 140737488355328)
      (.leaf (.inl (x0, x1, IntKind.i64.wrap (x2 + 1), x3 ++ [(⟨x2, v1⟩ : Power)]))))
      (.leaf (.inl (x0, x1, IntKind.i64.wrap (x2 + 1), x3))))))
    (.leaf (.inr x3)))
def sh_stake_Diff_l1 (x0 : (List Power)) (x1 : (List Power)) (x2 : Int) (x3 : (List Power)) : Option ((List Power)) := iter (fun s : (List Power) × (List Power) × Int × (List Power) => (T_stake_Diff_l1 s.1 s.2.1 s.2.2.1 s.2.2.2).run) (x0, x1, x2, x3)
def za88a : Ann := ⟨[], [], [], zv88, []⟩
def zq88a : EndD ((List Power) × (List Power) × Int × (List Power)) := ⟨(LQ.seq (Par.q powersP) (LQ.seq (Par.q powersP) (LQ.skip (LQ.const (.own 0)) (LQ.seq (Par.q intP) (Par.q powersP))))), ⟨[0, 1, 5, 8], [.pub 0, .nilsl 0 (.powers []), .pub 1, .nilsl 1 (.powers []), .nilown 5 116 (.powers [])]⟩, [.rows 116]⟩
def zq88ae0 : EndD ((List Power)) := ⟨(LQ.skip (LQ.const (.own 0)) (Par.q powersP)), ⟨[5], [.nilown 5 116 (.powers [])]⟩, [.rows 116]⟩
def zl88a : St → Option LR := L1 27 5 0 zq88a (.exit 0) zq88ae0 (fun s => T_stake_Diff_l1 s.1 s.2.1 s.2.2.1 s.2.2.2)
theorem zk88a : PieceOk (zy88).env 0 (sub zc88 [0, 1, 0, 1, 1]) zl88a :=
  loop1 (A := za88a) zh88 Facts.mix trivial (k := loopB (sub zc88 [0, 1, 0, 1, 1])) (by kernel_rfl) rfl (by rintro ⟨x0, x1, x2, x3⟩; kernel_rfl)
def za88 : Ann := ⟨[([0, 1, 0, 1, 1], zl88a)], [], [], zv88, []⟩
def T_stake_Diff (a0 : (List Power)) (a1 : (List Power)) : Tr ((List Power)) :=
  (.bind (sh_stake_Diff_l1 a0 a1 0 []) fun v3 =>
  (.leaf v3))
def sh_stake_Diff (a0 : (List Power)) (a1 : (List Power)) : Option ((List Power)) := (T_stake_Diff a0 a1).run
def zr88 : LQ ((List Power) × (List Power)) := (LQ.seq (Par.q powersP) (Par.q powersP))
def qr_stake_Diff : LQ ((List Power)) := (Par.q powersP)
def F_stake_Diff : SpecT := specF 0 zr88 2 [] (fun s => T_stake_Diff s.1 s.2) default qr_stake_Diff 1 []
theorem ok_stake_Diff : SpecOk Tryz.prog 103 (F_stake_Diff).spec :=
  specF_ok (A := za88) zh88 Facts.mix Tryz.func103 (c := zc88) (by kernel_rfl) (Lc := 0) ⟨zk88a, trivial⟩ zr88 2 5 [] (fun s => T_stake_Diff s.1 s.2) default qr_stake_Diff 1 [] [.pub 4] (by decide) (by kernel_rfl) (by rfl) (by decide) (by decide) (by rfl)
    (by rintro ⟨a0, a1⟩; kernel_rfl)

noncomputable def zc89 : Code := Tryz.f27.body.getD .skip
def zv89 : List (List Nat) := [[0, 1], [0, 1, 5], [0, 1, 5, 10], [0, 1, 5, 10, 11], [0, 1, 5, 6, 10], [0, 1, 5, 6, 7, 10], [0, 1, 5, 6, 7, 10, 16, 17, 18], [0, 1, 5, 6, 7, 10, 16, 17, 18, 19], [0, 1, 5, 6, 7, 9, 10, 16, 17, 18], [0, 1, 5, 6, 7, 9, 10, 16, 17, 18, 25], [0, 1, 5, 6, 7, 10, 16, 17, 18], [0, 1, 5, 6, 7, 10, 16, 17, 18], [0, 1, 5, 6, 7, 10, 30], [0, 1, 5, 10], [0, 1, 5, 10], [4]]
noncomputable def zy89 : EnvT := ⟨Tryz.prog, lookT [(77, F_stake_find)]⟩
theorem zh89 : (zy89).Ok := lookT_ok ⟨ok_stake_find, trivial⟩
def T_stake_Apply_l1 (x0 : (List Power)) (x1 : (List Power)) (x2 : Int) (x3 : Int) (x4 : Int) (x5 : (List Power)) (x6 : Int) (x7 : Int) (x8 : (List Power)) : Tr (((List Power) × (List Power) × Int × Int × Int × (List Power) × Int × Int × (List Power)) ⊕ ((List Power) × (List Power) × Int × Int × Int × (List Power))) :=
  (.ite (decide (x7 < x6))
    (.guard ((0 : Int) ≤ x7 ∧ x7 < ((Sl.len (.powers x5) : Nat) : Int))
    (.ite (((x5.getD x7.toNat default).V) == x2)
      (.leaf (.inl (x0, x1, x2, (x5.getD x7.toNat default).N, x4, x5, x6, IntKind.i64.wrap (x7 + 1), x8)))
      (.leaf (.inl (x0, x1, x2, x3, x4, x5, x6, IntKind.i64.wrap (x7 + 1), x8)))))
    (.leaf (.inr (x0, x1, x2, x3, x4, x8))))
def sh_stake_Apply_l1 (x0 : (List Power)) (x1 : (List Power)) (x2 : Int) (x3 : Int) (x4 : Int) (x5 : (List Power)) (x6 : Int) (x7 : Int) (x8 : (List Power)) : Option ((List Power) × (List Power) × Int × Int × Int × (List Power)) := iter (fun s : (List Power) × (List Power) × Int × Int × Int × (List Power) × Int × Int × (List Power) => (T_stake_Apply_l1 s.1 s.2.1 s.2.2.1 s.2.2.2.1 s.2.2.2.2.1 s.2.2.2.2.2.1 s.2.2.2.2.2.2.1 s.2.2.2.2.2.2.2.1 s.2.2.2.2.2.2.2.2).run) (x0, x1, x2, x3, x4, x5, x6, x7, x8)
def za89a : Ann := ⟨[], [], [], zv89, []⟩
def zq89a : EndD ((List Power) × (List Power) × Int × Int × Int × (List Power) × Int × Int × (List Power)) := ⟨(LQ.seq (Par.q powersP) (LQ.seq (Par.q powersP) (LQ.skip (LQ.const (.own 0)) (LQ.seq (Par.q intP) (LQ.seq (Par.q intP) (LQ.seq (Par.q intP) (LQ.seq (Par.q powersP) (LQ.seq (Par.q intP) (LQ.seq (Par.q intP) (Par.q powersP)))))))))), ⟨[0, 1, 5, 6, 7, 10, 16, 17, 18], [.pub 0, .nilsl 0 (.powers []), .pub 1, .nilsl 1 (.powers []), .nilown 5 116 (.powers []), .pub 16, .nilsl 16 (.powers [])]⟩, [.rows 116]⟩
def zq89ae0 : EndD ((List Power) × (List Power) × Int × Int × Int × (List Power)) := ⟨(LQ.seq (Par.q powersP) (LQ.seq (Par.q powersP) (LQ.skip (LQ.const (.own 0)) (LQ.seq (Par.q intP) (LQ.seq (Par.q intP) (LQ.seq (Par.q intP) (Par.q powersP))))))), ⟨[0, 1, 5, 6, 7, 10], [.pub 0, .nilsl 0 (.powers []), .pub 1, .nilsl 1 (.powers []), .nilown 5 116 (.powers [])]⟩, [.rows 116]⟩
def zl89a : St → Option LR := L1 39 5 0 zq89a (.exit 2) zq89ae0 (fun s => T_stake_Apply_l1 s.1 s.2.1 s.2.2.1 s.2.2.2.1 s.2.2.2.2.1 s.2.2.2.2.2.1 s.2.2.2.2.2.2.1 s.2.2.2.2.2.2.2.1 s.2.2.2.2.2.2.2.2)
theorem zk89a : PieceOk (zy89).env 0 (sub zc89 [0, 1, 0, 1, 1, 0, 0, 1, 1, 0, 0, 1, 0, 1, 1]) zl89a :=
  loop1 (A := za89a) zh89 Facts.mix trivial (k := loopB (sub zc89 [0, 1, 0, 1, 1, 0, 0, 1, 1, 0, 0, 1, 0, 1, 1])) (by kernel_rfl) rfl (by rintro ⟨x0, x1, x2, x3, x4, x5, x6, x7, x8⟩; kernel_rfl)
def T_stake_Apply_l2 (x0 : (List Power)) (x1 : (List Power)) (x2 : Int) (x3 : (List Power)) : Tr (((List Power) × (List Power) × Int × (List Power)) ⊕ ((List Power))) :=
  (.ite (decide (x2 < 6))
    (.bind (sh_stake_find x0 x2) fun v1 =>
    (.bind (sh_stake_Apply_l1 x0 x1 x2 v1 x2 x1 ((x1.length : Nat) : Int) 0 x3) fun v2 =>
    (.ite (decide (v2.2.2.2.1 > 0))
      (.guard ((Sl.len (.powers v2.2.2.2.2.2) + Sl.len (.powers [(⟨v2.2.2.1, v2.2.2.2.1⟩ : Power)])) * 16 ≤ 140737488355328)
      (.leaf (.inl (v2.1, v2.2.1, IntKind.i64.wrap (v2.2.2.2.2.1 + 1), v2.2.2.2.2.2 ++ [(⟨v2.2.2.1, v2.2.2.2.1⟩ : Power)]))))
      (.leaf (.inl (v2.1, v2.2.1, IntKind.i64.wrap (v2.2.2.2.2.1 + 1), v2.2.2.2.2.2))))))
    (.leaf (.inr x3)))
def sh_stake_Apply_l2 (x0 : (List Power)) (x1 : (List Power)) (x2 : Int) (x3 : (List Power)) : Option ((List Power)) := iter (fun s : (List Power) × (List Power) × Int × (List Power) => (T_stake_Apply_l2 s.1 s.2.1 s.2.2.1 s.2.2.2).run) (x0, x1, x2, x3)
def za89b : Ann := ⟨[([0, 1, 0, 1, 1, 0, 0, 1, 1, 0, 0, 1, 0, 1, 1], zl89a)], [], [], zv89, []⟩
def zq89b : EndD ((List Power) × (List Power) × Int × (List Power)) := ⟨(LQ.seq (Par.q powersP) (LQ.seq (Par.q powersP) (LQ.skip (LQ.const (.own 0)) (LQ.seq (Par.q intP) (Par.q powersP))))), ⟨[0, 1, 5, 10], [.pub 0, .nilsl 0 (.powers []), .pub 1, .nilsl 1 (.powers []), .nilown 5 116 (.powers [])]⟩, [.rows 116]⟩
def zq89be0 : EndD ((List Power)) := ⟨(LQ.skip (LQ.const (.own 0)) (Par.q powersP)), ⟨[5], [.nilown 5 116 (.powers [])]⟩, [.rows 116]⟩
def zl89b : St → Option LR := L1 39 5 0 zq89b (.exit 0) zq89be0 (fun s => T_stake_Apply_l2 s.1 s.2.1 s.2.2.1 s.2.2.2)
theorem zk89b : PieceOk (zy89).env 0 (sub zc89 [0, 1, 0, 1, 1]) zl89b :=
  loop1 (A := za89b) zh89 Facts.mix ⟨zk89a, trivial⟩ (k := loopB (sub zc89 [0, 1, 0, 1, 1])) (by kernel_rfl) rfl (by rintro ⟨x0, x1, x2, x3⟩; kernel_rfl)
def za89 : Ann := ⟨[([0, 1, 0, 1, 1], zl89b)], [], [], zv89, []⟩
def T_stake_Apply (a0 : (List Power)) (a1 : (List Power)) : Tr ((List Power)) :=
  (.bind (sh_stake_Apply_l2 a0 a1 0 []) fun v3 =>
  (.leaf v3))
def sh_stake_Apply (a0 : (List Power)) (a1 : (List Power)) : Option ((List Power)) := (T_stake_Apply a0 a1).run
def zr89 : LQ ((List Power) × (List Power)) := (LQ.seq (Par.q powersP) (Par.q powersP))
def qr_stake_Apply : LQ ((List Power)) := (Par.q powersP)
def F_stake_Apply : SpecT := specF 0 zr89 2 [] (fun s => T_stake_Apply s.1 s.2) default qr_stake_Apply 1 []
theorem ok_stake_Apply : SpecOk Tryz.prog 27 (F_stake_Apply).spec :=
  specF_ok (A := za89) zh89 Facts.mix Tryz.func27 (c := zc89) (by kernel_rfl) (Lc := 0) ⟨zk89b, trivial⟩ zr89 2 5 [] (fun s => T_stake_Apply s.1 s.2) default qr_stake_Apply 1 [] [.pub 4] (by decide) (by kernel_rfl) (by rfl) (by decide) (by decide) (by rfl)
    (by rintro ⟨a0, a1⟩; kernel_rfl)

noncomputable def zc90 : Code := Tryz.f44.body.getD .skip
def zv90 : List (List Nat) := [[0], [0, 3], [3, 6, 7, 8], [3, 6, 7, 8, 9], [3, 5, 6, 7, 8], [3, 6, 7, 8], [3, 6, 7, 8], [2]]
noncomputable def zy90 : EnvT := ⟨Tryz.prog, lookT []⟩
theorem zh90 : (zy90).Ok := lookT_ok trivial
def T_stake_All_l1 (x0 : Int) (x1 : (List Power)) (x2 : Int) (x3 : Int) : Tr ((Int × (List Power) × Int × Int) ⊕ (Int)) :=
  (.ite (decide (x3 < x2))
    (.guard ((0 : Int) ≤ x3 ∧ x3 < ((Sl.len (.powers x1) : Nat) : Int))
    (.leaf (.inl (IntKind.i64.wrap (x0 + ((x1.getD x3.toNat default).N)), x1, x2, IntKind.i64.wrap (x3 + 1)))))
    (.leaf (.inr x0)))
def sh_stake_All_l1 (x0 : Int) (x1 : (List Power)) (x2 : Int) (x3 : Int) : Option (Int) := iter (fun s : Int × (List Power) × Int × Int => (T_stake_All_l1 s.1 s.2.1 s.2.2.1 s.2.2.2).run) (x0, x1, x2, x3)
def za90a : Ann := ⟨[], [], [], zv90, []⟩
def zq90a : EndD (Int × (List Power) × Int × Int) := ⟨(LQ.seq (Par.q intP) (LQ.seq (Par.q powersP) (LQ.seq (Par.q intP) (Par.q intP)))), ⟨[3, 6, 7, 8], [.pub 6, .nilsl 6 (.powers [])]⟩, []⟩
def zq90ae0 : EndD (Int) := ⟨(Par.q intP), ⟨[3], []⟩, []⟩
def zl90a : St → Option LR := L1 18 3 0 zq90a (.exit 0) zq90ae0 (fun s => T_stake_All_l1 s.1 s.2.1 s.2.2.1 s.2.2.2)
theorem zk90a : PieceOk (zy90).env 0 (sub zc90 [0, 1, 0, 1, 1]) zl90a :=
  loop1 (A := za90a) zh90 Facts.mix trivial (k := loopB (sub zc90 [0, 1, 0, 1, 1])) (by kernel_rfl) rfl (by rintro ⟨x0, x1, x2, x3⟩; kernel_rfl)
def za90 : Ann := ⟨[([0, 1, 0, 1, 1], zl90a)], [], [], zv90, []⟩
def T_stake_All (a0 : (List Power)) : Tr (Int) :=
  (.bind (sh_stake_All_l1 0 a0 ((a0.length : Nat) : Int) 0) fun v1 =>
  (.leaf v1))
def sh_stake_All (a0 : (List Power)) : Option (Int) := (T_stake_All a0).run
def zr90 : LQ ((List Power)) := (Par.q powersP)
def qr_stake_All : LQ (Int) := (Par.q intP)
def F_stake_All : SpecT := specF 0 zr90 1 [] (fun s => T_stake_All s) default qr_stake_All 1 []
theorem ok_stake_All : SpecOk Tryz.prog 44 (F_stake_All).spec :=
  specF_ok (A := za90) zh90 Facts.mix Tryz.func44 (c := zc90) (by kernel_rfl) (Lc := 0) ⟨zk90a, trivial⟩ zr90 1 3 [] (fun s => T_stake_All s) default qr_stake_All 1 [] [] (by decide) (by kernel_rfl) (by rfl) (by decide) (by decide) (by rfl)
    (by rintro a0; kernel_rfl)

noncomputable def zc107 : Code := Tryz.f24.body.getD .skip
def zv107 : List (List Nat) := [[0, 1], [0, 1, 10], [4], [0, 1, 5], [0, 1, 5, 14], [0, 1, 5], [0, 1, 5, 25], [4], [4]]
noncomputable def zy107 : EnvT := ⟨Tryz.prog, lookT []⟩
theorem zh107 : (zy107).Ok := lookT_ok trivial
def T_keep_samePowers_l1 (x0 : (List Power)) (x1 : (List Power)) (x2 : Int) : Tr (((List Power) × (List Power) × Int) ⊕ ((Bool) ⊕ (Unit))) :=
  (.ite (decide (x2 < ((x0.length : Nat) : Int)))
    (.guard ((0 : Int) ≤ x2 ∧ x2 < ((Sl.len (.powers x0) : Nat) : Int))
    (.guard ((0 : Int) ≤ x2 ∧ x2 < ((Sl.len (.powers x1) : Nat) : Int))
    (.ite (!((((x0.getD x2.toNat default).V) == ((x1.getD x2.toNat default).V)) && ((((x0.getD x2.toNat default).N) == ((x1.getD x2.toNat default).N)) && true)))
      (.leaf (.inr (.inl false)))
      (.leaf (.inl (x0, x1, IntKind.i64.wrap (x2 + 1)))))))
    (.leaf (.inr (.inr ()))))
def sh_keep_samePowers_l1 (x0 : (List Power)) (x1 : (List Power)) (x2 : Int) : Option ((Bool) ⊕ (Unit)) := iter (fun s : (List Power) × (List Power) × Int => (T_keep_samePowers_l1 s.1 s.2.1 s.2.2).run) (x0, x1, x2)
def za107a : Ann := ⟨[], [], [], zv107, []⟩
def zq107a : EndD ((List Power) × (List Power) × Int) := ⟨(LQ.seq (Par.q powersP) (LQ.seq (Par.q powersP) (Par.q intP))), ⟨[0, 1, 5], [.pub 0, .nilsl 0 (.powers []), .pub 1, .nilsl 1 (.powers [])]⟩, []⟩
def zq107ae0 : EndD (Bool) := ⟨(Par.q boolP), ⟨[4], []⟩, []⟩
def zq107ae1 : EndD (Unit) := ⟨LQ.nil, ⟨[], []⟩, []⟩
def zl107a : St → Option LR := L2 26 2 0 zq107a .ret zq107ae0 (.exit 0) zq107ae1 (fun s => T_keep_samePowers_l1 s.1 s.2.1 s.2.2)
theorem zk107a : PieceOk (zy107).env 0 (sub zc107 [0, 1, 0, 1, 1]) zl107a :=
  loop2 (A := za107a) zh107 Facts.mix trivial (k := loopB (sub zc107 [0, 1, 0, 1, 1])) (by kernel_rfl) rfl rfl (by rintro ⟨x0, x1, x2⟩; kernel_rfl)
def za107 : Ann := ⟨[([0, 1, 0, 1, 1], zl107a)], [], [], zv107, []⟩
def T_keep_samePowers (a0 : (List Power)) (a1 : (List Power)) : Tr (Bool) :=
  (.ite (((a0.length : Nat) : Int) != ((a1.length : Nat) : Int))
    (.leaf false)
    (.two (sh_keep_samePowers_l1 a0 a1 0) (fun v1 =>
      (.leaf v1)) (fun v2 =>
      (.leaf true))))
def sh_keep_samePowers (a0 : (List Power)) (a1 : (List Power)) : Option (Bool) := (T_keep_samePowers a0 a1).run
def zr107 : LQ ((List Power) × (List Power)) := (LQ.seq (Par.q powersP) (Par.q powersP))
def qr_keep_samePowers : LQ (Bool) := (Par.q boolP)
def F_keep_samePowers : SpecT := specF 0 zr107 2 [] (fun s => T_keep_samePowers s.1 s.2) default qr_keep_samePowers 1 []
theorem ok_keep_samePowers : SpecOk Tryz.prog 24 (F_keep_samePowers).spec :=
  specF_ok (A := za107) zh107 Facts.mix Tryz.func24 (c := zc107) (by kernel_rfl) (Lc := 0) ⟨zk107a, trivial⟩ zr107 2 2 [] (fun s => T_keep_samePowers s.1 s.2) default qr_keep_samePowers 1 [] [] (by decide) (by kernel_rfl) (by rfl) (by decide) (by decide) (by rfl)
    (by rintro ⟨a0, a1⟩; kernel_rfl)

noncomputable def zc108 : Code := Tryz.f25.body.getD .skip
def zv108 : List (List Nat) := [[1], [1, 3], [3, 8, 9], [3, 8, 9, 10], [3, 4, 5, 8, 9], [3, 4, 5, 6, 8, 9], [3, 4, 6, 8, 9, 22], [3, 8, 9], [3, 8, 9], [3], [3], [3], [2]]
noncomputable def zy108 : EnvT := ⟨Tryz.prog, lookT [(72, F_sort_SliceStable), (74, F_sort_Slice)]⟩
theorem zh108 : (zy108).Ok := lookT_ok ⟨ok_sort_SliceStable, ok_sort_Slice, trivial⟩
def T_stake_Set_l1 (x0 : (A6 Validator)) (x1 : Int) (x2 : (List Power)) : Tr (((A6 Validator) × Int × (List Power)) ⊕ ((List Power))) :=
  (.ite (decide (x1 < 6))
    (.guard ((0 : Int) ≤ x1 ∧ (x1 : Int) < 6)
    (.guard ((100 : Int) ≠ 0)
    (.ite ((!(A6.get ⟨x0.x0.Jailed, x0.x1.Jailed, x0.x2.Jailed, x0.x3.Jailed, x0.x4.Jailed, x0.x5.Jailed⟩ x1)) && (decide ((IntKind.i64.wrap (Int.tdiv (A6.get ⟨x0.x0.Tokens, x0.x1.Tokens, x0.x2.Tokens, x0.x3.Tokens, x0.x4.Tokens, x0.x5.Tokens⟩ x1) 100)) > 0)))
      (.guard ((Sl.len (.powers x2) + Sl.len (.powers [(⟨x1, IntKind.i64.wrap (Int.tdiv (A6.get ⟨x0.x0.Tokens, x0.x1.Tokens, x0.x2.Tokens, x0.x3.Tokens, x0.x4.Tokens, x0.x5.Tokens⟩ x1) 100)⟩ : Power)])) * 16 ≤ 140737488355328)
      (.leaf (.inl (x0, IntKind.i64.wrap (x1 + 1), x2 ++ [(⟨x1, IntKind.i64.wrap (Int.tdiv (A6.get ⟨x0.x0.Tokens, x0.x1.Tokens, x0.x2.Tokens, x0.x3.Tokens, x0.x4.Tokens, x0.x5.Tokens⟩ x1) 100)⟩ : Power)]))))
      (.leaf (.inl (x0, IntKind.i64.wrap (x1 + 1), x2))))))
    (.leaf (.inr x2)))
def sh_stake_Set_l1 (x0 : (A6 Validator)) (x1 : Int) (x2 : (List Power)) : Option ((List Power)) := iter (fun s : (A6 Validator) × Int × (List Power) => (T_stake_Set_l1 s.1 s.2.1 s.2.2).run) (x0, x1, x2)
def za108a : Ann := ⟨[], [], [], zv108, []⟩
def zq108a : EndD ((A6 Validator) × Int × (List Power)) := ⟨(LQ.skip (LQ.const (.ptr 0 0)) (LQ.seq (Par.q (Par.ofLP (a6L validatorL))) (LQ.seq (Par.q intP) (LQ.skip (LQ.const (.own 1)) (Par.q powersP))))), ⟨[3, 8, 9], [.nilcell 3 0 116 (.powers [])]⟩, [.cells 33 1, .rows 116]⟩
def zq108ae0 : EndD ((List Power)) := ⟨(LQ.skip (LQ.const (.ptr 0 0)) (LQ.skip (LQ.const (.own 1)) (Par.q powersP))), ⟨[3], [.nilcell 3 0 116 (.powers [])]⟩, [.cells 33 1, .rows 116]⟩
def zl108a : St → Option LR := L1 44 7 0 zq108a (.exit 0) zq108ae0 (fun s => T_stake_Set_l1 s.1 s.2.1 s.2.2)
theorem zk108a : PieceOk (zy108).env 0 (sub zc108 [0, 1, 0, 1, 1]) zl108a :=
  loop1 (A := za108a) zh108 Facts.mix trivial (k := loopB (sub zc108 [0, 1, 0, 1, 1])) (by kernel_rfl) rfl (by rintro ⟨x0, x1, x2⟩; kernel_rfl)
def za108 : Ann := ⟨[([0, 1, 0, 1, 1], zl108a)], [], [], zv108, []⟩
def T_stake_Set (a0 : Stake) : Tr ((List Power)) :=
  (.bind (sh_stake_Set_l1 (⟨(⟨a0.Validators.Tokens.x0, a0.Validators.Shares.x0, a0.Validators.Lost.x0, a0.Validators.Jailed.x0, a0.Validators.Dead.x0⟩ : Validator), (⟨a0.Validators.Tokens.x1, a0.Validators.Shares.x1, a0.Validators.Lost.x1, a0.Validators.Jailed.x1, a0.Validators.Dead.x1⟩ : Validator), (⟨a0.Validators.Tokens.x2, a0.Validators.Shares.x2, a0.Validators.Lost.x2, a0.Validators.Jailed.x2, a0.Validators.Dead.x2⟩ : Validator), (⟨a0.Validators.Tokens.x3, a0.Validators.Shares.x3, a0.Validators.Lost.x3, a0.Validators.Jailed.x3, a0.Validators.Dead.x3⟩ : Validator), (⟨a0.Validators.Tokens.x4, a0.Validators.Shares.x4, a0.Validators.Lost.x4, a0.Validators.Jailed.x4, a0.Validators.Dead.x4⟩ : Validator), (⟨a0.Validators.Tokens.x5, a0.Validators.Shares.x5, a0.Validators.Lost.x5, a0.Validators.Jailed.x5, a0.Validators.Dead.x5⟩ : Validator)⟩ : (A6 Validator)) 0 []) fun v1 =>
  (.bind (sh_sort_SliceStable v1) fun v2 =>
  (.guard ((0 : Int) ≤ (if 4 < ((v2.length : Nat) : Int) then 4 else ((v2.length : Nat) : Int)) ∧ (if 4 < ((v2.length : Nat) : Int) then 4 else ((v2.length : Nat) : Int)) ≤ ((Sl.len (.powers v2) : Nat) : Int))
  (.bind (sh_sort_Slice ((v2.drop 0).take ((if 4 < ((v2.length : Nat) : Int) then 4 else ((v2.length : Nat) : Int)).toNat - 0))) fun v3 =>
  (.leaf v3)))))
def sh_stake_Set (a0 : Stake) : Option ((List Power)) := (T_stake_Set a0).run
def zr108 : LQ (Stake) := (Par.q (Par.ofLP stakeL))
def qr_stake_Set : LQ ((List Power)) := (Par.q powersP)
def F_stake_Set : SpecT := specF 0 zr108 1 [] (fun s => T_stake_Set s) default qr_stake_Set 1 []
theorem ok_stake_Set : SpecOk Tryz.prog 25 (F_stake_Set).spec :=
  specF_ok (A := za108) zh108 Facts.mix Tryz.func25 (c := zc108) (by kernel_rfl) (Lc := 0) ⟨zk108a, trivial⟩ zr108 1 7 [] (fun s => T_stake_Set s) default qr_stake_Set 1 [] [.pub 2] (by decide) (by kernel_rfl) (by rfl) (by decide) (by decide) (by rfl)
    (by rintro a0; kernel_rfl)

end
end Go.Proofs.YtknbejjfejdppaaGreat.Ab
