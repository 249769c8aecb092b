/-
  The functions, each by its tree.
-/
import Derived.Test.YtbpehnghffljiaaFacts
import Derived.Test.YtbpehnghffljiaaAbStructs
import Derived.Test.YtbpehnghffljiaaAbFun
import Derived.Test.YtbpehnghffljiaaFRatio
import Derived.Test.YtbpehnghffljiaaFBank
import Derived.Test.YtbpehnghffljiaaAbSort2
namespace Go.Proofs.Ytbpehnghffljiaa.Ab
open Go Go.RowKit
set_option maxRecDepth 100000
set_option linter.unusedVariables false
set_option linter.unusedSimpArgs false
noncomputable section

noncomputable def zc51 : Code := Try.f69.body.getD .skip
def zv51 : List (List Nat) := [[0, 1], [1, 7, 8, 9], [1, 7, 8, 9, 10], [1, 6, 7, 8, 9], [1, 6, 7, 8, 9, 16], [4], [1, 7, 8, 9], [4]]
noncomputable def zy51 : EnvT := ⟨Try.prog, lookT []⟩
theorem zh51 : (zy51).Ok := lookT_ok trivial
def T_stake_find_l1 (x0 : Int) (x1 : (List Power)) (x2 : Int) (x3 : Int) : Tr ((Int × (List Power) × Int × Int) ⊕ ((Int) ⊕ (Unit))) :=
  (.ite (decide (x3 < x2))
    (.guard ((0 : Int) ≤ x3 ∧ x3 < ((Sl.len (.powers x1) : Nat) : Int))
    (.ite (((x1.getD x3.toNat default).V) == x0)
      (.leaf (.inr (.inl ((x1.getD x3.toNat default).N))))
      (.leaf (.inl (x0, x1, x2, IntKind.i64.wrap (x3 + 1))))))
    (.leaf (.inr (.inr ()))))
def sh_stake_find_l1 (x0 : Int) (x1 : (List Power)) (x2 : Int) (x3 : Int) : Option ((Int) ⊕ (Unit)) := iter (fun s : Int × (List Power) × Int × Int => (T_stake_find_l1 s.1 s.2.1 s.2.2.1 s.2.2.2).run) (x0, x1, x2, x3)
def za51a : Ann := ⟨[], [], [], zv51, []⟩
def zq51a : EndD (Int × (List Power) × Int × Int) := ⟨(LQ.seq (Par.q intP) (LQ.seq (Par.q powersP) (LQ.seq (Par.q intP) (Par.q intP)))), ⟨[1, 7, 8, 9], [.pub 7, .nilsl 7 (.powers [])]⟩, []⟩
def zq51ae0 : EndD (Int) := ⟨(Par.q intP), ⟨[4], []⟩, []⟩
def zq51ae1 : EndD (Unit) := ⟨LQ.nil, ⟨[], []⟩, []⟩
def zl51a : St → Option LR := L2 20 3 0 zq51a .ret zq51ae0 (.exit 0) zq51ae1 (fun s => T_stake_find_l1 s.1 s.2.1 s.2.2.1 s.2.2.2)
theorem zk51a : PieceOk (zy51).env 0 (sub zc51 [0, 1, 0, 1]) zl51a :=
  loop2 (A := za51a) zh51 Facts.mix trivial (k := loopB (sub zc51 [0, 1, 0, 1])) (by kernel_rfl) rfl rfl (by rintro ⟨x0, x1, x2, x3⟩; kernel_rfl)
def za51 : Ann := ⟨[([0, 1, 0, 1], zl51a)], [], [], zv51, []⟩
def T_stake_find (a0 : (List Power)) (a1 : Int) : Tr (Int) :=
  (.two (sh_stake_find_l1 a1 a0 ((a0.length : Nat) : Int) 0) (fun v1 =>
    (.leaf v1)) (fun v2 =>
    (.leaf 0)))
def sh_stake_find (a0 : (List Power)) (a1 : Int) : Option (Int) := (T_stake_find a0 a1).run
def zr51 : LQ ((List Power) × Int) := (LQ.seq (Par.q powersP) (Par.q intP))
def qr_stake_find : LQ (Int) := (Par.q intP)
def F_stake_find : SpecT := specF 0 zr51 2 [] (fun s => T_stake_find s.1 s.2) default qr_stake_find 1 []
theorem ok_stake_find : SpecOk Try.prog 69 (F_stake_find).spec :=
  specF_ok (A := za51) zh51 Facts.mix Try.func69 (c := zc51) (by kernel_rfl) (Lc := 0) ⟨zk51a, trivial⟩ zr51 2 3 [] (fun s => T_stake_find s.1 s.2) default qr_stake_find 1 [] [] (by decide) (by kernel_rfl) (by rfl) (by decide) (by decide) (by rfl)
    (by rintro ⟨a0, a1⟩; kernel_rfl)

noncomputable def zc52 : Code := Try.f33.body.getD .skip
def zv52 : List (List Nat) := [[0, 1], [0, 1, 5], [0, 1, 5, 8], [0, 1, 5, 8, 9], [0, 1, 5, 6, 8], [0, 1, 5, 6, 7, 8], [0, 1, 5, 6, 7, 8, 18], [0, 1, 5, 8], [0, 1, 5, 8], [4]]
noncomputable def zy52 : EnvT := ⟨Try.prog, lookT [(69, F_stake_find)]⟩
theorem zh52 : (zy52).Ok := lookT_ok ⟨ok_stake_find, trivial⟩
def T_stake_Diff_l1 (x0 : (List Power)) (x1 : (List Power)) (x2 : Int) (x3 : (List Power)) : Tr (((List Power) × (List Power) × Int × (List Power)) ⊕ ((List Power))) :=
  (.ite (decide (x2 < 6))
    (.bind (sh_stake_find x1 x2) fun v1 =>
    (.bind (sh_stake_find x0 x2) fun v2 =>
    (.ite (v1 != v2)
      (.guard ((Sl.len (.powers x3) + Sl.len (.powers [(⟨x2, v1⟩ : Power)])) * 16 ≤ 140737488355328)
      (.leaf (.inl (x0, x1, IntKind.i64.wrap (x2 + 1), x3 ++ [(⟨x2, v1⟩ : Power)]))))
      (.leaf (.inl (x0, x1, IntKind.i64.wrap (x2 + 1), x3))))))
    (.leaf (.inr x3)))
def sh_stake_Diff_l1 (x0 : (List Power)) (x1 : (List Power)) (x2 : Int) (x3 : (List Power)) : Option ((List Power)) := iter (fun s : (List Power) × (List Power) × Int × (List Power) => (T_stake_Diff_l1 s.1 s.2.1 s.2.2.1 s.2.2.2).run) (x0, x1, x2, x3)
def za52a : Ann := ⟨[], [], [], zv52, []⟩
def zq52a : EndD ((List Power) × (List Power) × Int × (List Power)) := ⟨(LQ.seq (Par.q powersP) (LQ.seq (Par.q powersP) (LQ.skip (LQ.const (.own 0)) (LQ.seq (Par.q intP) (Par.q powersP))))), ⟨[0, 1, 5, 8], [.pub 0, .nilsl 0 (.powers []), .pub 1, .nilsl 1 (.powers []), .nilown 5 45 (.powers [])]⟩, [.rows 45]⟩
def zq52ae0 : EndD ((List Power)) := ⟨(LQ.skip (LQ.const (.own 0)) (Par.q powersP)), ⟨[5], [.nilown 5 45 (.powers [])]⟩, [.rows 45]⟩
def zl52a : St → Option LR := L1 27 5 0 zq52a (.exit 0) zq52ae0 (fun s => T_stake_Diff_l1 s.1 s.2.1 s.2.2.1 s.2.2.2)
theorem zk52a : PieceOk (zy52).env 0 (sub zc52 [0, 1, 0, 1, 1]) zl52a :=
  loop1 (A := za52a) zh52 Facts.mix trivial (k := loopB (sub zc52 [0, 1, 0, 1, 1])) (by kernel_rfl) rfl (by rintro ⟨x0, x1, x2, x3⟩; kernel_rfl)
def za52 : Ann := ⟨[([0, 1, 0, 1, 1], zl52a)], [], [], zv52, []⟩
def T_stake_Diff (a0 : (List Power)) (a1 : (List Power)) : Tr ((List Power)) :=
  (.bind (sh_stake_Diff_l1 a0 a1 0 []) fun v3 =>
  (.leaf v3))
def sh_stake_Diff (a0 : (List Power)) (a1 : (List Power)) : Option ((List Power)) := (T_stake_Diff a0 a1).run
def zr52 : LQ ((List Power) × (List Power)) := (LQ.seq (Par.q powersP) (Par.q powersP))
def qr_stake_Diff : LQ ((List Power)) := (Par.q powersP)
def F_stake_Diff : SpecT := specF 0 zr52 2 [] (fun s => T_stake_Diff s.1 s.2) default qr_stake_Diff 1 []
theorem ok_stake_Diff : SpecOk Try.prog 33 (F_stake_Diff).spec :=
  specF_ok (A := za52) zh52 Facts.mix Try.func33 (c := zc52) (by kernel_rfl) (Lc := 0) ⟨zk52a, trivial⟩ zr52 2 5 [] (fun s => T_stake_Diff s.1 s.2) default qr_stake_Diff 1 [] [.pub 4] (by decide) (by kernel_rfl) (by rfl) (by decide) (by decide) (by rfl)
    (by rintro ⟨a0, a1⟩; kernel_rfl)

noncomputable def zc53 : Code := Try.f36.body.getD .skip
def zv53 : List (List Nat) := [[0, 1], [0, 1, 5], [0, 1, 5, 10], [0, 1, 5, 10, 11], [0, 1, 5, 6, 10], [0, 1, 5, 6, 7, 10], [0, 1, 5, 6, 7, 10, 16, 17, 18], [0, 1, 5, 6, 7, 10, 16, 17, 18, 19], [0, 1, 5, 6, 7, 9, 10, 16, 17, 18], [0, 1, 5, 6, 7, 9, 10, 16, 17, 18, 25], [0, 1, 5, 6, 7, 10, 16, 17, 18], [0, 1, 5, 6, 7, 10, 16, 17, 18], [0, 1, 5, 6, 7, 10, 30], [0, 1, 5, 10], [0, 1, 5, 10], [4]]
noncomputable def zy53 : EnvT := ⟨Try.prog, lookT [(69, F_stake_find)]⟩
theorem zh53 : (zy53).Ok := lookT_ok ⟨ok_stake_find, trivial⟩
def T_stake_Apply_l1 (x0 : (List Power)) (x1 : (List Power)) (x2 : Int) (x3 : Int) (x4 : Int) (x5 : (List Power)) (x6 : Int) (x7 : Int) (x8 : (List Power)) : Tr (((List Power) × (List Power) × Int × Int × Int × (List Power) × Int × Int × (List Power)) ⊕ ((List Power) × (List Power) × Int × Int × Int × (List Power))) :=
  (.ite (decide (x7 < x6))
    (.guard ((0 : Int) ≤ x7 ∧ x7 < ((Sl.len (.powers x5) : Nat) : Int))
    (.ite (((x5.getD x7.toNat default).V) == x2)
      (.leaf (.inl (x0, x1, x2, (x5.getD x7.toNat default).N, x4, x5, x6, IntKind.i64.wrap (x7 + 1), x8)))
      (.leaf (.inl (x0, x1, x2, x3, x4, x5, x6, IntKind.i64.wrap (x7 + 1), x8)))))
    (.leaf (.inr (x0, x1, x2, x3, x4, x8))))
def sh_stake_Apply_l1 (x0 : (List Power)) (x1 : (List Power)) (x2 : Int) (x3 : Int) (x4 : Int) (x5 : (List Power)) (x6 : Int) (x7 : Int) (x8 : (List Power)) : Option ((List Power) × (List Power) × Int × Int × Int × (List Power)) := iter (fun s : (List Power) × (List Power) × Int × Int × Int × (List Power) × Int × Int × (List Power) => (T_stake_Apply_l1 s.1 s.2.1 s.2.2.1 s.2.2.2.1 s.2.2.2.2.1 s.2.2.2.2.2.1 s.2.2.2.2.2.2.1 s.2.2.2.2.2.2.2.1 s.2.2.2.2.2.2.2.2).run) (x0, x1, x2, x3, x4, x5, x6, x7, x8)
def za53a : Ann := ⟨[], [], [], zv53, []⟩
def zq53a : EndD ((List Power) × (List Power) × Int × Int × Int × (List Power) × Int × Int × (List Power)) := ⟨(LQ.seq (Par.q powersP) (LQ.seq (Par.q powersP) (LQ.skip (LQ.const (.own 0)) (LQ.seq (Par.q intP) (LQ.seq (Par.q intP) (LQ.seq (Par.q intP) (LQ.seq (Par.q powersP) (LQ.seq (Par.q intP) (LQ.seq (Par.q intP) (Par.q powersP)))))))))), ⟨[0, 1, 5, 6, 7, 10, 16, 17, 18], [.pub 0, .nilsl 0 (.powers []), .pub 1, .nilsl 1 (.powers []), .nilown 5 45 (.powers []), .pub 16, .nilsl 16 (.powers [])]⟩, [.rows 45]⟩
def zq53ae0 : EndD ((List Power) × (List Power) × Int × Int × Int × (List Power)) := ⟨(LQ.seq (Par.q powersP) (LQ.seq (Par.q powersP) (LQ.skip (LQ.const (.own 0)) (LQ.seq (Par.q intP) (LQ.seq (Par.q intP) (LQ.seq (Par.q intP) (Par.q powersP))))))), ⟨[0, 1, 5, 6, 7, 10], [.pub 0, .nilsl 0 (.powers []), .pub 1, .nilsl 1 (.powers []), .nilown 5 45 (.powers [])]⟩, [.rows 45]⟩
def zl53a : St → Option LR := L1 39 5 0 zq53a (.exit 2) zq53ae0 (fun s => T_stake_Apply_l1 s.1 s.2.1 s.2.2.1 s.2.2.2.1 s.2.2.2.2.1 s.2.2.2.2.2.1 s.2.2.2.2.2.2.1 s.2.2.2.2.2.2.2.1 s.2.2.2.2.2.2.2.2)
theorem zk53a : PieceOk (zy53).env 0 (sub zc53 [0, 1, 0, 1, 1, 0, 0, 1, 1, 0, 0, 1, 0, 1, 1]) zl53a :=
  loop1 (A := za53a) zh53 Facts.mix trivial (k := loopB (sub zc53 [0, 1, 0, 1, 1, 0, 0, 1, 1, 0, 0, 1, 0, 1, 1])) (by kernel_rfl) rfl (by rintro ⟨x0, x1, x2, x3, x4, x5, x6, x7, x8⟩; kernel_rfl)
def T_stake_Apply_l2 (x0 : (List Power)) (x1 : (List Power)) (x2 : Int) (x3 : (List Power)) : Tr (((List Power) × (List Power) × Int × (List Power)) ⊕ ((List Power))) :=
  (.ite (decide (x2 < 6))
    (.bind (sh_stake_find x0 x2) fun v1 =>
    (.bind (sh_stake_Apply_l1 x0 x1 x2 v1 x2 x1 ((x1.length : Nat) : Int) 0 x3) fun v2 =>
    (.ite (decide (v2.2.2.2.1 > 0))
      (.guard ((Sl.len (.powers v2.2.2.2.2.2) + Sl.len (.powers [(⟨v2.2.2.1, v2.2.2.2.1⟩ : Power)])) * 16 ≤ 140737488355328)
      (.leaf (.inl (v2.1, v2.2.1, IntKind.i64.wrap (v2.2.2.2.2.1 + 1), v2.2.2.2.2.2 ++ [(⟨v2.2.2.1, v2.2.2.2.1⟩ : Power)]))))
      (.leaf (.inl (v2.1, v2.2.1, IntKind.i64.wrap (v2.2.2.2.2.1 + 1), v2.2.2.2.2.2))))))
    (.leaf (.inr x3)))
def sh_stake_Apply_l2 (x0 : (List Power)) (x1 : (List Power)) (x2 : Int) (x3 : (List Power)) : Option ((List Power)) := iter (fun s : (List Power) × (List Power) × Int × (List Power) => (T_stake_Apply_l2 s.1 s.2.1 s.2.2.1 s.2.2.2).run) (x0, x1, x2, x3)
def za53b : Ann := ⟨[([0, 1, 0, 1, 1, 0, 0, 1, 1, 0, 0, 1, 0, 1, 1], zl53a)], [], [], zv53, []⟩
def zq53b : EndD ((List Power) × (List Power) × Int × (List Power)) := ⟨(LQ.seq (Par.q powersP) (LQ.seq (Par.q powersP) (LQ.skip (LQ.const (.own 0)) (LQ.seq (Par.q intP) (Par.q powersP))))), ⟨[0, 1, 5, 10], [.pub 0, .nilsl 0 (.powers []), .pub 1, .nilsl 1 (.powers []), .nilown 5 45 (.powers [])]⟩, [.rows 45]⟩
def zq53be0 : EndD ((List Power)) := ⟨(LQ.skip (LQ.const (.own 0)) (Par.q powersP)), ⟨[5], [.nilown 5 45 (.powers [])]⟩, [.rows 45]⟩
def zl53b : St → Option LR := L1 39 5 0 zq53b (.exit 0) zq53be0 (fun s => T_stake_Apply_l2 s.1 s.2.1 s.2.2.1 s.2.2.2)
theorem zk53b : PieceOk (zy53).env 0 (sub zc53 [0, 1, 0, 1, 1]) zl53b :=
  loop1 (A := za53b) zh53 Facts.mix ⟨zk53a, trivial⟩ (k := loopB (sub zc53 [0, 1, 0, 1, 1])) (by kernel_rfl) rfl (by rintro ⟨x0, x1, x2, x3⟩; kernel_rfl)
def za53 : Ann := ⟨[([0, 1, 0, 1, 1], zl53b)], [], [], zv53, []⟩
def T_stake_Apply (a0 : (List Power)) (a1 : (List Power)) : Tr ((List Power)) :=
  (.bind (sh_stake_Apply_l2 a0 a1 0 []) fun v3 =>
  (.leaf v3))
def sh_stake_Apply (a0 : (List Power)) (a1 : (List Power)) : Option ((List Power)) := (T_stake_Apply a0 a1).run
def zr53 : LQ ((List Power) × (List Power)) := (LQ.seq (Par.q powersP) (Par.q powersP))
def qr_stake_Apply : LQ ((List Power)) := (Par.q powersP)
def F_stake_Apply : SpecT := specF 0 zr53 2 [] (fun s => T_stake_Apply s.1 s.2) default qr_stake_Apply 1 []
theorem ok_stake_Apply : SpecOk Try.prog 36 (F_stake_Apply).spec :=
  specF_ok (A := za53) zh53 Facts.mix Try.func36 (c := zc53) (by kernel_rfl) (Lc := 0) ⟨zk53b, trivial⟩ zr53 2 5 [] (fun s => T_stake_Apply s.1 s.2) default qr_stake_Apply 1 [] [.pub 4] (by decide) (by kernel_rfl) (by rfl) (by decide) (by decide) (by rfl)
    (by rintro ⟨a0, a1⟩; kernel_rfl)

noncomputable def zc54 : Code := Try.f38.body.getD .skip
def zv54 : List (List Nat) := [[0], [0, 3], [3, 6, 7, 8], [3, 6, 7, 8, 9], [3, 5, 6, 7, 8], [3, 6, 7, 8], [3, 6, 7, 8], [2]]
noncomputable def zy54 : EnvT := ⟨Try.prog, lookT []⟩
theorem zh54 : (zy54).Ok := lookT_ok trivial
def T_stake_All_l1 (x0 : Int) (x1 : (List Power)) (x2 : Int) (x3 : Int) : Tr ((Int × (List Power) × Int × Int) ⊕ (Int)) :=
  (.ite (decide (x3 < x2))
    (.guard ((0 : Int) ≤ x3 ∧ x3 < ((Sl.len (.powers x1) : Nat) : Int))
    (.leaf (.inl (IntKind.i64.wrap (x0 + ((x1.getD x3.toNat default).N)), x1, x2, IntKind.i64.wrap (x3 + 1)))))
    (.leaf (.inr x0)))
def sh_stake_All_l1 (x0 : Int) (x1 : (List Power)) (x2 : Int) (x3 : Int) : Option (Int) := iter (fun s : Int × (List Power) × Int × Int => (T_stake_All_l1 s.1 s.2.1 s.2.2.1 s.2.2.2).run) (x0, x1, x2, x3)
def za54a : Ann := ⟨[], [], [], zv54, []⟩
def zq54a : EndD (Int × (List Power) × Int × Int) := ⟨(LQ.seq (Par.q intP) (LQ.seq (Par.q powersP) (LQ.seq (Par.q intP) (Par.q intP)))), ⟨[3, 6, 7, 8], [.pub 6, .nilsl 6 (.powers [])]⟩, []⟩
def zq54ae0 : EndD (Int) := ⟨(Par.q intP), ⟨[3], []⟩, []⟩
def zl54a : St → Option LR := L1 18 3 0 zq54a (.exit 0) zq54ae0 (fun s => T_stake_All_l1 s.1 s.2.1 s.2.2.1 s.2.2.2)
theorem zk54a : PieceOk (zy54).env 0 (sub zc54 [0, 1, 0, 1, 1]) zl54a :=
  loop1 (A := za54a) zh54 Facts.mix trivial (k := loopB (sub zc54 [0, 1, 0, 1, 1])) (by kernel_rfl) rfl (by rintro ⟨x0, x1, x2, x3⟩; kernel_rfl)
def za54 : Ann := ⟨[([0, 1, 0, 1, 1], zl54a)], [], [], zv54, []⟩
def T_stake_All (a0 : (List Power)) : Tr (Int) :=
  (.bind (sh_stake_All_l1 0 a0 ((a0.length : Nat) : Int) 0) fun v1 =>
  (.leaf v1))
def sh_stake_All (a0 : (List Power)) : Option (Int) := (T_stake_All a0).run
def zr54 : LQ ((List Power)) := (Par.q powersP)
def qr_stake_All : LQ (Int) := (Par.q intP)
def F_stake_All : SpecT := specF 0 zr54 1 [] (fun s => T_stake_All s) default qr_stake_All 1 []
theorem ok_stake_All : SpecOk Try.prog 38 (F_stake_All).spec :=
  specF_ok (A := za54) zh54 Facts.mix Try.func38 (c := zc54) (by kernel_rfl) (Lc := 0) ⟨zk54a, trivial⟩ zr54 1 3 [] (fun s => T_stake_All s) default qr_stake_All 1 [] [] (by decide) (by kernel_rfl) (by rfl) (by decide) (by decide) (by rfl)
    (by rintro a0; kernel_rfl)

noncomputable def zc68 : Code := Try.f70.body.getD .skip
def zv68 : List (List Nat) := [[0, 2], [0, 2, 3], [0, 2, 3, 4], [0, 2, 3, 4, 9], [0, 2, 3, 4], [0, 2, 3, 4, 25], [0, 2, 3, 4], [2]]
noncomputable def zy68 : EnvT := ⟨Try.prog, lookT []⟩
theorem zh68 : (zy68).Ok := lookT_ok trivial
def T_ref_row_l1 (x0 : (List Power)) (x1 : Int) (x2 : (A6 Int)) (x3 : (A6 Int)) : Tr (((List Power) × Int × (A6 Int) × (A6 Int)) ⊕ ((A6 Int) × (A6 Int))) :=
  (.ite (decide (x1 ≥ 0))
    (.guard ((0 : Int) ≤ x1 ∧ x1 < ((Sl.len (.powers x0) : Nat) : Int))
    (.guard (((decide (((x0.getD x1.toNat default).V) ≥ 0)) = true → ((0 : Int) ≤ x1 ∧ x1 < ((Sl.len (.powers x0) : Nat) : Int)) ∧ True))
    (.ite ((decide (((x0.getD x1.toNat default).V) ≥ 0)) && (decide (((x0.getD x1.toNat default).V) < 6)))
      (.guard ((0 : Int) ≤ x1 ∧ x1 < ((Sl.len (.powers x0) : Nat) : Int))
      (.guard ((0 : Int) ≤ x1 ∧ x1 < ((Sl.len (.powers x0) : Nat) : Int))
      (.guard ((0 : Int) ≤ ((x0.getD x1.toNat default).V) ∧ (((x0.getD x1.toNat default).V) : Int) < 6)
      (.leaf (.inl (x0, IntKind.i64.wrap (x1 - 1), x2, (x3.set ((x0.getD x1.toNat default).V) ((x0.getD x1.toNat default).N))))))))
      (.leaf (.inl (x0, IntKind.i64.wrap (x1 - 1), x2, x3))))))
    (.leaf (.inr (x2, x3))))
def sh_ref_row_l1 (x0 : (List Power)) (x1 : Int) (x2 : (A6 Int)) (x3 : (A6 Int)) : Option ((A6 Int) × (A6 Int)) := iter (fun s : (List Power) × Int × (A6 Int) × (A6 Int) => (T_ref_row_l1 s.1 s.2.1 s.2.2.1 s.2.2.2).run) (x0, x1, x2, x3)
def za68a : Ann := ⟨[], [], [], zv68, []⟩
def zq68a : EndD ((List Power) × Int × (A6 Int) × (A6 Int)) := ⟨(LQ.seq (Par.q powersP) (LQ.skip (LQ.const (.ptr 0 0)) (LQ.skip (LQ.const (.ptr 1 0)) (LQ.seq (Par.q intP) (LQ.seq (LP.q (a6L (LP.one intP))) (LP.q (a6L (LP.one intP)))))))), ⟨[0, 2, 3, 4], [.pub 0, .nilsl 0 (.powers [])]⟩, [.cells 28 6, .cells 28 6]⟩
def zq68ae0 : EndD ((A6 Int) × (A6 Int)) := ⟨(LQ.skip (LQ.const (.ptr 0 0)) (LQ.skip (LQ.const (.ptr 1 0)) (LQ.seq (LP.q (a6L (LP.one intP))) (LP.q (a6L (LP.one intP)))))), ⟨[2, 3], []⟩, [.cells 28 6, .cells 28 6]⟩
def zl68a : St → Option LR := L1 38 4 0 zq68a (.exit 0) zq68ae0 (fun s => T_ref_row_l1 s.1 s.2.1 s.2.2.1 s.2.2.2)
theorem zk68a : PieceOk (zy68).env 0 (sub zc68 [0, 1, 0, 1, 1]) zl68a :=
  loop1 (A := za68a) zh68 Facts.mix trivial (k := loopB (sub zc68 [0, 1, 0, 1, 1])) (by kernel_rfl) rfl (by rintro ⟨x0, x1, x2, x3⟩; kernel_rfl)
def za68 : Ann := ⟨[([0, 1, 0, 1, 1], zl68a)], [], [], zv68, []⟩
def T_ref_row (a0 : (List Power)) : Tr ((A6 Int)) :=
  (.bind (sh_ref_row_l1 a0 (IntKind.i64.wrap (((a0.length : Nat) : Int) - 1)) (⟨0, 0, 0, 0, 0, 0⟩ : (A6 Int)) (⟨0, 0, 0, 0, 0, 0⟩ : (A6 Int))) fun v1 =>
  (.leaf v1.2))
def sh_ref_row (a0 : (List Power)) : Option ((A6 Int)) := (T_ref_row a0).run
def zr68 : LQ ((List Power)) := (Par.q powersP)
def qr_ref_row : LQ ((A6 Int)) := (Par.q (Par.ofLP (a6L (LP.one intP))))
def F_ref_row : SpecT := specF 0 zr68 1 [] (fun s => T_ref_row s) default qr_ref_row 1 []
theorem ok_ref_row : SpecOk Try.prog 70 (F_ref_row).spec :=
  specF_ok (A := za68) zh68 Facts.mix Try.func70 (c := zc68) (by kernel_rfl) (Lc := 0) ⟨zk68a, trivial⟩ zr68 1 4 [] (fun s => T_ref_row s) default qr_ref_row 1 [] [] (by decide) (by kernel_rfl) (by rfl) (by decide) (by decide) (by rfl)
    (by rintro a0; kernel_rfl)

noncomputable def zc69 : Code := Try.f35.body.getD .skip
def zv69 : List (List Nat) := [[0, 1], [5, 6], [5, 6, 7], [5, 6, 7, 13], [5, 6, 7, 13, 14], [5, 6, 7, 8, 13], [5, 6, 7, 8, 13, 22], [5, 6, 7, 13], [5, 6, 7, 13], [4]]
noncomputable def zy69 : EnvT := ⟨Try.prog, lookT [(70, F_ref_row)]⟩
theorem zh69 : (zy69).Ok := lookT_ok ⟨ok_ref_row, trivial⟩
def T_ref_Diff_l1 (x0 : Int) (x1 : (A6 Int)) (x2 : (A6 Int)) (x3 : (List Power)) : Tr ((Int × (A6 Int) × (A6 Int) × (List Power)) ⊕ ((List Power))) :=
  (.ite (decide (x0 < 6))
    (.guard ((0 : Int) ≤ x0 ∧ (x0 : Int) < 6)
    (.guard ((0 : Int) ≤ x0 ∧ (x0 : Int) < 6)
    (.ite ((x1.get x0) != (x2.get x0))
      (.guard ((0 : Int) ≤ x0 ∧ (x0 : Int) < 6)
      (.guard ((Sl.len (.powers x3) + Sl.len (.powers [(⟨x0, x2.get x0⟩ : Power)])) * 16 ≤ 140737488355328)
      (.leaf (.inl (IntKind.i64.wrap (x0 + 1), x1, x2, x3 ++ [(⟨x0, x2.get x0⟩ : Power)])))))
      (.leaf (.inl (IntKind.i64.wrap (x0 + 1), x1, x2, x3))))))
    (.leaf (.inr x3)))
def sh_ref_Diff_l1 (x0 : Int) (x1 : (A6 Int)) (x2 : (A6 Int)) (x3 : (List Power)) : Option ((List Power)) := iter (fun s : Int × (A6 Int) × (A6 Int) × (List Power) => (T_ref_Diff_l1 s.1 s.2.1 s.2.2.1 s.2.2.2).run) (x0, x1, x2, x3)
def za69a : Ann := ⟨[], [], [], zv69, []⟩
def zq69a : EndD (Int × (A6 Int) × (A6 Int) × (List Power)) := ⟨(LQ.skip (LQ.const (.ptr 0 0)) (LQ.skip (LQ.const (.ptr 1 0)) (LQ.skip (LQ.const (.own 2)) (LQ.seq (Par.q intP) (LQ.seq (LP.q (a6L (LP.one intP))) (LQ.seq (LP.q (a6L (LP.one intP))) (Par.q powersP))))))), ⟨[5, 6, 7, 13], [.nilown 7 45 (.powers [])]⟩, [.cells 28 6, .cells 28 6, .rows 45]⟩
def zq69ae0 : EndD ((List Power)) := ⟨(LQ.skip (LQ.const (.own 0)) (Par.q powersP)), ⟨[7], [.nilown 7 45 (.powers [])]⟩, [.rows 45]⟩
def zl69a : St → Option LR := L1 33 7 0 zq69a (.exit 0) zq69ae0 (fun s => T_ref_Diff_l1 s.1 s.2.1 s.2.2.1 s.2.2.2)
theorem zk69a : PieceOk (zy69).env 0 (sub zc69 [0, 1, 0, 1, 1, 1]) zl69a :=
  loop1 (A := za69a) zh69 Facts.mix trivial (k := loopB (sub zc69 [0, 1, 0, 1, 1, 1])) (by kernel_rfl) rfl (by rintro ⟨x0, x1, x2, x3⟩; kernel_rfl)
def za69 : Ann := ⟨[([0, 1, 0, 1, 1, 1], zl69a)], [], [], zv69, []⟩
def T_ref_Diff (a0 : (List Power)) (a1 : (List Power)) : Tr ((List Power)) :=
  (.bind (sh_ref_row a0) fun v1 =>
  (.bind (sh_ref_row a1) fun v2 =>
  (.bind (sh_ref_Diff_l1 0 v1 v2 []) fun v3 =>
  (.leaf v3))))
def sh_ref_Diff (a0 : (List Power)) (a1 : (List Power)) : Option ((List Power)) := (T_ref_Diff a0 a1).run
def zr69 : LQ ((List Power) × (List Power)) := (LQ.seq (Par.q powersP) (Par.q powersP))
def qr_ref_Diff : LQ ((List Power)) := (Par.q powersP)
def F_ref_Diff : SpecT := specF 0 zr69 2 [] (fun s => T_ref_Diff s.1 s.2) default qr_ref_Diff 1 []
theorem ok_ref_Diff : SpecOk Try.prog 35 (F_ref_Diff).spec :=
  specF_ok (A := za69) zh69 Facts.mix Try.func35 (c := zc69) (by kernel_rfl) (Lc := 0) ⟨zk69a, trivial⟩ zr69 2 7 [] (fun s => T_ref_Diff s.1 s.2) default qr_ref_Diff 1 [] [.pub 4] (by decide) (by kernel_rfl) (by rfl) (by decide) (by decide) (by rfl)
    (by rintro ⟨a0, a1⟩; kernel_rfl)

noncomputable def zc70 : Code := Try.f37.body.getD .skip
def zv70 : List (List Nat) := [[0, 1], [1, 5], [5, 12, 13, 14], [5, 12, 13, 14, 15], [5, 7, 12, 13, 14], [5, 7, 12, 13, 14, 25], [5, 12, 13, 14], [5, 12, 13, 14], [5, 8], [5, 8, 32], [5, 8, 32, 33], [5, 8, 9, 32], [5, 8, 9, 32, 38], [5, 8, 32], [5, 8, 32], [4]]
noncomputable def zy70 : EnvT := ⟨Try.prog, lookT [(70, F_ref_row)]⟩
theorem zh70 : (zy70).Ok := lookT_ok ⟨ok_ref_row, trivial⟩
def T_ref_Apply_l1 (x0 : (List Power)) (x1 : Int) (x2 : Int) (x3 : (A6 Int)) : Tr (((List Power) × Int × Int × (A6 Int)) ⊕ ((A6 Int))) :=
  (.ite (decide (x2 < x1))
    (.guard ((0 : Int) ≤ x2 ∧ x2 < ((Sl.len (.powers x0) : Nat) : Int))
    (.ite ((decide (((x0.getD x2.toNat default).V) ≥ 0)) && (decide (((x0.getD x2.toNat default).V) < 6)))
      (.guard ((0 : Int) ≤ ((x0.getD x2.toNat default).V) ∧ (((x0.getD x2.toNat default).V) : Int) < 6)
      (.leaf (.inl (x0, x1, IntKind.i64.wrap (x2 + 1), (x3.set ((x0.getD x2.toNat default).V) ((x0.getD x2.toNat default).N))))))
      (.leaf (.inl (x0, x1, IntKind.i64.wrap (x2 + 1), x3)))))
    (.leaf (.inr x3)))
def sh_ref_Apply_l1 (x0 : (List Power)) (x1 : Int) (x2 : Int) (x3 : (A6 Int)) : Option ((A6 Int)) := iter (fun s : (List Power) × Int × Int × (A6 Int) => (T_ref_Apply_l1 s.1 s.2.1 s.2.2.1 s.2.2.2).run) (x0, x1, x2, x3)
def za70a : Ann := ⟨[], [], [], zv70, []⟩
def zq70a : EndD ((List Power) × Int × Int × (A6 Int)) := ⟨(LQ.skip (LQ.const (.ptr 0 0)) (LQ.seq (Par.q powersP) (LQ.seq (Par.q intP) (LQ.seq (Par.q intP) (LP.q (a6L (LP.one intP))))))), ⟨[5, 12, 13, 14], [.pub 12, .nilsl 12 (.powers [])]⟩, [.cells 28 6]⟩
def zq70ae0 : EndD ((A6 Int)) := ⟨(LQ.skip (LQ.const (.ptr 0 0)) (LP.q (a6L (LP.one intP)))), ⟨[5], []⟩, [.cells 28 6]⟩
def zl70a : St → Option LR := L1 49 6 0 zq70a (.exit 0) zq70ae0 (fun s => T_ref_Apply_l1 s.1 s.2.1 s.2.2.1 s.2.2.2)
theorem zk70a : PieceOk (zy70).env 0 (sub zc70 [0, 1, 0, 1, 1]) zl70a :=
  loop1 (A := za70a) zh70 Facts.mix trivial (k := loopB (sub zc70 [0, 1, 0, 1, 1])) (by kernel_rfl) rfl (by rintro ⟨x0, x1, x2, x3⟩; kernel_rfl)
def T_ref_Apply_l2 (x0 : Int) (x1 : (A6 Int)) (x2 : (List Power)) : Tr ((Int × (A6 Int) × (List Power)) ⊕ ((List Power))) :=
  (.ite (decide (x0 < 6))
    (.guard ((0 : Int) ≤ x0 ∧ (x0 : Int) < 6)
    (.ite (decide ((x1.get x0) > 0))
      (.guard ((0 : Int) ≤ x0 ∧ (x0 : Int) < 6)
      (.guard ((Sl.len (.powers x2) + Sl.len (.powers [(⟨x0, x1.get x0⟩ : Power)])) * 16 ≤ 140737488355328)
      (.leaf (.inl (IntKind.i64.wrap (x0 + 1), x1, x2 ++ [(⟨x0, x1.get x0⟩ : Power)])))))
      (.leaf (.inl (IntKind.i64.wrap (x0 + 1), x1, x2)))))
    (.leaf (.inr x2)))
def sh_ref_Apply_l2 (x0 : Int) (x1 : (A6 Int)) (x2 : (List Power)) : Option ((List Power)) := iter (fun s : Int × (A6 Int) × (List Power) => (T_ref_Apply_l2 s.1 s.2.1 s.2.2).run) (x0, x1, x2)
def za70b : Ann := ⟨[], [], [], zv70, []⟩
def zq70b : EndD (Int × (A6 Int) × (List Power)) := ⟨(LQ.skip (LQ.const (.ptr 0 0)) (LQ.skip (LQ.const (.own 1)) (LQ.seq (Par.q intP) (LQ.seq (LP.q (a6L (LP.one intP))) (Par.q powersP))))), ⟨[5, 8, 32], [.nilown 8 45 (.powers [])]⟩, [.cells 28 6, .rows 45]⟩
def zq70be0 : EndD ((List Power)) := ⟨(LQ.skip (LQ.const (.own 0)) (Par.q powersP)), ⟨[8], [.nilown 8 45 (.powers [])]⟩, [.rows 45]⟩
def zl70b : St → Option LR := L1 49 6 0 zq70b (.exit 2) zq70be0 (fun s => T_ref_Apply_l2 s.1 s.2.1 s.2.2)
theorem zk70b : PieceOk (zy70).env 0 (sub zc70 [0, 1, 0, 1, 1, 1, 1]) zl70b :=
  loop1 (A := za70b) zh70 Facts.mix trivial (k := loopB (sub zc70 [0, 1, 0, 1, 1, 1, 1])) (by kernel_rfl) rfl (by rintro ⟨x0, x1, x2⟩; kernel_rfl)
def za70 : Ann := ⟨[([0, 1, 0, 1, 1], zl70a), ([0, 1, 0, 1, 1, 1, 1], zl70b)], [], [], zv70, []⟩
def T_ref_Apply (a0 : (List Power)) (a1 : (List Power)) : Tr ((List Power)) :=
  (.bind (sh_ref_row a0) fun v1 =>
  (.bind (sh_ref_Apply_l1 a1 ((a1.length : Nat) : Int) 0 v1) fun v2 =>
  (.bind (sh_ref_Apply_l2 0 v2 []) fun v3 =>
  (.leaf v3))))
def sh_ref_Apply (a0 : (List Power)) (a1 : (List Power)) : Option ((List Power)) := (T_ref_Apply a0 a1).run
def zr70 : LQ ((List Power) × (List Power)) := (LQ.seq (Par.q powersP) (Par.q powersP))
def qr_ref_Apply : LQ ((List Power)) := (Par.q powersP)
def F_ref_Apply : SpecT := specF 0 zr70 2 [] (fun s => T_ref_Apply s.1 s.2) default qr_ref_Apply 1 []
theorem ok_ref_Apply : SpecOk Try.prog 37 (F_ref_Apply).spec :=
  specF_ok (A := za70) zh70 Facts.mix Try.func37 (c := zc70) (by kernel_rfl) (Lc := 0) ⟨zk70a, zk70b, trivial⟩ zr70 2 6 [] (fun s => T_ref_Apply s.1 s.2) default qr_ref_Apply 1 [] [.pub 4] (by decide) (by kernel_rfl) (by rfl) (by decide) (by decide) (by rfl)
    (by rintro ⟨a0, a1⟩; kernel_rfl)

noncomputable def zc71 : Code := Try.f39.body.getD .skip
def zv71 : List (List Nat) := [[0], [0, 3], [3, 6, 7, 8], [3, 6, 7, 8, 9], [3, 5, 6, 7, 8], [3, 6, 7, 8], [3, 6, 7, 8], [2]]
noncomputable def zy71 : EnvT := ⟨Try.prog, lookT []⟩
theorem zh71 : (zy71).Ok := lookT_ok trivial
def T_ref_AllOf_l1 (x0 : Int) (x1 : (List Power)) (x2 : Int) (x3 : Int) : Tr ((Int × (List Power) × Int × Int) ⊕ (Int)) :=
  (.ite (decide (x3 < x2))
    (.guard ((0 : Int) ≤ x3 ∧ x3 < ((Sl.len (.powers x1) : Nat) : Int))
    (.leaf (.inl (IntKind.i64.wrap (x0 + ((x1.getD x3.toNat default).N)), x1, x2, IntKind.i64.wrap (x3 + 1)))))
    (.leaf (.inr x0)))
def sh_ref_AllOf_l1 (x0 : Int) (x1 : (List Power)) (x2 : Int) (x3 : Int) : Option (Int) := iter (fun s : Int × (List Power) × Int × Int => (T_ref_AllOf_l1 s.1 s.2.1 s.2.2.1 s.2.2.2).run) (x0, x1, x2, x3)
def za71a : Ann := ⟨[], [], [], zv71, []⟩
def zq71a : EndD (Int × (List Power) × Int × Int) := ⟨(LQ.seq (Par.q intP) (LQ.seq (Par.q powersP) (LQ.seq (Par.q intP) (Par.q intP)))), ⟨[3, 6, 7, 8], [.pub 6, .nilsl 6 (.powers [])]⟩, []⟩
def zq71ae0 : EndD (Int) := ⟨(Par.q intP), ⟨[3], []⟩, []⟩
def zl71a : St → Option LR := L1 18 3 0 zq71a (.exit 0) zq71ae0 (fun s => T_ref_AllOf_l1 s.1 s.2.1 s.2.2.1 s.2.2.2)
theorem zk71a : PieceOk (zy71).env 0 (sub zc71 [0, 1, 0, 1, 1]) zl71a :=
  loop1 (A := za71a) zh71 Facts.mix trivial (k := loopB (sub zc71 [0, 1, 0, 1, 1])) (by kernel_rfl) rfl (by rintro ⟨x0, x1, x2, x3⟩; kernel_rfl)
def za71 : Ann := ⟨[([0, 1, 0, 1, 1], zl71a)], [], [], zv71, []⟩
def T_ref_AllOf (a0 : (List Power)) : Tr (Int) :=
  (.bind (sh_ref_AllOf_l1 0 a0 ((a0.length : Nat) : Int) 0) fun v1 =>
  (.leaf v1))
def sh_ref_AllOf (a0 : (List Power)) : Option (Int) := (T_ref_AllOf a0).run
def zr71 : LQ ((List Power)) := (Par.q powersP)
def qr_ref_AllOf : LQ (Int) := (Par.q intP)
def F_ref_AllOf : SpecT := specF 0 zr71 1 [] (fun s => T_ref_AllOf s) default qr_ref_AllOf 1 []
theorem ok_ref_AllOf : SpecOk Try.prog 39 (F_ref_AllOf).spec :=
  specF_ok (A := za71) zh71 Facts.mix Try.func39 (c := zc71) (by kernel_rfl) (Lc := 0) ⟨zk71a, trivial⟩ zr71 1 3 [] (fun s => T_ref_AllOf s) default qr_ref_AllOf 1 [] [] (by decide) (by kernel_rfl) (by rfl) (by decide) (by decide) (by rfl)
    (by rintro a0; kernel_rfl)

noncomputable def zc72 : Code := Try.f31.body.getD .skip
def zv72 : List (List Nat) := [[0, 1], [0, 1, 10], [4], [0, 1, 12, 13], [0, 1, 12, 13, 14], [0, 1, 5, 12, 13], [0, 1, 12, 13, 24], [4], [0, 1, 12, 13], [4]]
noncomputable def zy72 : EnvT := ⟨Try.prog, lookT []⟩
theorem zh72 : (zy72).Ok := lookT_ok trivial
def T_ref_SamePowers_l1 (x0 : (List Power)) (x1 : (List Power)) (x2 : Int) (x3 : Int) : Tr (((List Power) × (List Power) × Int × Int) ⊕ ((Bool) ⊕ (Unit))) :=
  (.ite (decide (x3 < x2))
    (.guard ((0 : Int) ≤ x3 ∧ x3 < ((Sl.len (.powers x0) : Nat) : Int))
    (.guard ((0 : Int) ≤ x3 ∧ x3 < ((Sl.len (.powers x1) : Nat) : Int))
    (.ite (!((((x0.getD x3.toNat default).V) == ((x1.getD x3.toNat default).V)) && ((((x0.getD x3.toNat default).N) == ((x1.getD x3.toNat default).N)) && true)))
      (.leaf (.inr (.inl false)))
      (.leaf (.inl (x0, x1, x2, IntKind.i64.wrap (x3 + 1)))))))
    (.leaf (.inr (.inr ()))))
def sh_ref_SamePowers_l1 (x0 : (List Power)) (x1 : (List Power)) (x2 : Int) (x3 : Int) : Option ((Bool) ⊕ (Unit)) := iter (fun s : (List Power) × (List Power) × Int × Int => (T_ref_SamePowers_l1 s.1 s.2.1 s.2.2.1 s.2.2.2).run) (x0, x1, x2, x3)
def za72a : Ann := ⟨[], [], [], zv72, []⟩
def zq72a : EndD ((List Power) × (List Power) × Int × Int) := ⟨(LQ.seq (Par.q powersP) (LQ.seq (Par.q powersP) (LQ.seq (Par.q intP) (Par.q intP)))), ⟨[0, 1, 12, 13], [.pub 0, .nilsl 0 (.powers []), .pub 1, .nilsl 1 (.powers [])]⟩, []⟩
def zq72ae0 : EndD (Bool) := ⟨(Par.q boolP), ⟨[4], []⟩, []⟩
def zq72ae1 : EndD (Unit) := ⟨LQ.nil, ⟨[], []⟩, []⟩
def zl72a : St → Option LR := L2 26 2 0 zq72a .ret zq72ae0 (.exit 0) zq72ae1 (fun s => T_ref_SamePowers_l1 s.1 s.2.1 s.2.2.1 s.2.2.2)
theorem zk72a : PieceOk (zy72).env 0 (sub zc72 [0, 1, 0, 1, 1]) zl72a :=
  loop2 (A := za72a) zh72 Facts.mix trivial (k := loopB (sub zc72 [0, 1, 0, 1, 1])) (by kernel_rfl) rfl rfl (by rintro ⟨x0, x1, x2, x3⟩; kernel_rfl)
def za72 : Ann := ⟨[([0, 1, 0, 1, 1], zl72a)], [], [], zv72, []⟩
def T_ref_SamePowers (a0 : (List Power)) (a1 : (List Power)) : Tr (Bool) :=
  (.ite (((a0.length : Nat) : Int) != ((a1.length : Nat) : Int))
    (.leaf false)
    (.two (sh_ref_SamePowers_l1 a0 a1 ((a0.length : Nat) : Int) 0) (fun v1 =>
      (.leaf v1)) (fun v2 =>
      (.leaf true))))
def sh_ref_SamePowers (a0 : (List Power)) (a1 : (List Power)) : Option (Bool) := (T_ref_SamePowers a0 a1).run
def zr72 : LQ ((List Power) × (List Power)) := (LQ.seq (Par.q powersP) (Par.q powersP))
def qr_ref_SamePowers : LQ (Bool) := (Par.q boolP)
def F_ref_SamePowers : SpecT := specF 0 zr72 2 [] (fun s => T_ref_SamePowers s.1 s.2) default qr_ref_SamePowers 1 []
theorem ok_ref_SamePowers : SpecOk Try.prog 31 (F_ref_SamePowers).spec :=
  specF_ok (A := za72) zh72 Facts.mix Try.func31 (c := zc72) (by kernel_rfl) (Lc := 0) ⟨zk72a, trivial⟩ zr72 2 2 [] (fun s => T_ref_SamePowers s.1 s.2) default qr_ref_SamePowers 1 [] [] (by decide) (by kernel_rfl) (by rfl) (by decide) (by decide) (by rfl)
    (by rintro ⟨a0, a1⟩; kernel_rfl)

noncomputable def zc73 : Code := Try.f45.body.getD .skip
def zv73 : List (List Nat) := [[0, 1], [0, 1, 10], [4], [0, 1, 12, 13], [0, 1, 12, 13, 14], [0, 1, 5, 12, 13], [0, 1, 12, 13, 24], [4], [0, 1, 12, 13], [4]]
noncomputable def zy73 : EnvT := ⟨Try.prog, lookT []⟩
theorem zh73 : (zy73).Ok := lookT_ok trivial
def T_ref_SameNumbers_l1 (x0 : (List Int)) (x1 : (List Int)) (x2 : Int) (x3 : Int) : Tr (((List Int) × (List Int) × Int × Int) ⊕ ((Bool) ⊕ (Unit))) :=
  (.ite (decide (x3 < x2))
    (.guard ((0 : Int) ≤ x3 ∧ x3 < ((Sl.len (.ints x0) : Nat) : Int))
    (.guard ((0 : Int) ≤ x3 ∧ x3 < ((Sl.len (.ints x1) : Nat) : Int))
    (.ite ((x0.getD x3.toNat 0) != (x1.getD x3.toNat 0))
      (.leaf (.inr (.inl false)))
      (.leaf (.inl (x0, x1, x2, IntKind.i64.wrap (x3 + 1)))))))
    (.leaf (.inr (.inr ()))))
def sh_ref_SameNumbers_l1 (x0 : (List Int)) (x1 : (List Int)) (x2 : Int) (x3 : Int) : Option ((Bool) ⊕ (Unit)) := iter (fun s : (List Int) × (List Int) × Int × Int => (T_ref_SameNumbers_l1 s.1 s.2.1 s.2.2.1 s.2.2.2).run) (x0, x1, x2, x3)
def za73a : Ann := ⟨[], [], [], zv73, []⟩
def zq73a : EndD ((List Int) × (List Int) × Int × Int) := ⟨(LQ.seq (Par.q intsP) (LQ.seq (Par.q intsP) (LQ.seq (Par.q intP) (Par.q intP)))), ⟨[0, 1, 12, 13], [.pub 0, .nilsl 0 (.ints []), .pub 1, .nilsl 1 (.ints [])]⟩, []⟩
def zq73ae0 : EndD (Bool) := ⟨(Par.q boolP), ⟨[4], []⟩, []⟩
def zq73ae1 : EndD (Unit) := ⟨LQ.nil, ⟨[], []⟩, []⟩
def zl73a : St → Option LR := L2 26 2 0 zq73a .ret zq73ae0 (.exit 0) zq73ae1 (fun s => T_ref_SameNumbers_l1 s.1 s.2.1 s.2.2.1 s.2.2.2)
theorem zk73a : PieceOk (zy73).env 0 (sub zc73 [0, 1, 0, 1, 1]) zl73a :=
  loop2 (A := za73a) zh73 Facts.mix trivial (k := loopB (sub zc73 [0, 1, 0, 1, 1])) (by kernel_rfl) rfl rfl (by rintro ⟨x0, x1, x2, x3⟩; kernel_rfl)
def za73 : Ann := ⟨[([0, 1, 0, 1, 1], zl73a)], [], [], zv73, []⟩
def T_ref_SameNumbers (a0 : (List Int)) (a1 : (List Int)) : Tr (Bool) :=
  (.ite (((a0.length : Nat) : Int) != ((a1.length : Nat) : Int))
    (.leaf false)
    (.two (sh_ref_SameNumbers_l1 a0 a1 ((a0.length : Nat) : Int) 0) (fun v1 =>
      (.leaf v1)) (fun v2 =>
      (.leaf true))))
def sh_ref_SameNumbers (a0 : (List Int)) (a1 : (List Int)) : Option (Bool) := (T_ref_SameNumbers a0 a1).run
def zr73 : LQ ((List Int) × (List Int)) := (LQ.seq (Par.q intsP) (Par.q intsP))
def qr_ref_SameNumbers : LQ (Bool) := (Par.q boolP)
def F_ref_SameNumbers : SpecT := specF 0 zr73 2 [] (fun s => T_ref_SameNumbers s.1 s.2) default qr_ref_SameNumbers 1 []
theorem ok_ref_SameNumbers : SpecOk Try.prog 45 (F_ref_SameNumbers).spec :=
  specF_ok (A := za73) zh73 Facts.mix Try.func45 (c := zc73) (by kernel_rfl) (Lc := 0) ⟨zk73a, trivial⟩ zr73 2 2 [] (fun s => T_ref_SameNumbers s.1 s.2) default qr_ref_SameNumbers 1 [] [] (by decide) (by kernel_rfl) (by rfl) (by decide) (by decide) (by rfl)
    (by rintro ⟨a0, a1⟩; kernel_rfl)

noncomputable def zc74 : Code := Try.f40.body.getD .skip
def zv74 : List (List Nat) := [[0], [0, 3], [0, 3, 4], [0, 3, 4, 13], [0, 3, 4], [0, 3, 4, 5], [0, 3, 4, 5, 22], [0, 3, 4], [2]]
noncomputable def zy74 : EnvT := ⟨Try.prog, lookT [(71, F_keep_pick)]⟩
theorem zh74 : (zy74).Ok := lookT_ok ⟨ok_keep_pick, trivial⟩
def T_keep_made_l1 (x0 : (List Int)) (x1 : Int) (x2 : (List Power)) : Tr (((List Int) × Int × (List Power)) ⊕ ((List Power))) :=
  (.ite ((decide (x1 < 6)) && (decide (x1 < ((x0.length : Nat) : Int))))
    (.guard ((0 : Int) ≤ x1 ∧ x1 < ((Sl.len (.ints x0) : Nat) : Int))
    (.bind (sh_keep_pick (x0.getD x1.toNat 0) 4) fun v1 =>
    (.ite (decide (v1 > 0))
      (.guard ((Sl.len (.powers x2) + Sl.len (.powers [(⟨x1, v1⟩ : Power)])) * 16 ≤ 140737488355328)
      (.leaf (.inl (x0, IntKind.i64.wrap (x1 + 1), x2 ++ [(⟨x1, v1⟩ : Power)]))))
      (.leaf (.inl (x0, IntKind.i64.wrap (x1 + 1), x2))))))
    (.leaf (.inr x2)))
def sh_keep_made_l1 (x0 : (List Int)) (x1 : Int) (x2 : (List Power)) : Option ((List Power)) := iter (fun s : (List Int) × Int × (List Power) => (T_keep_made_l1 s.1 s.2.1 s.2.2).run) (x0, x1, x2)
def za74a : Ann := ⟨[], [], [], zv74, []⟩
def zq74a : EndD ((List Int) × Int × (List Power)) := ⟨(LQ.seq (Par.q intsP) (LQ.skip (LQ.const (.own 0)) (LQ.seq (Par.q intP) (Par.q powersP)))), ⟨[0, 3, 4], [.pub 0, .nilsl 0 (.ints []), .nilown 3 45 (.powers [])]⟩, [.rows 45]⟩
def zq74ae0 : EndD ((List Power)) := ⟨(LQ.skip (LQ.const (.own 0)) (Par.q powersP)), ⟨[3], [.nilown 3 45 (.powers [])]⟩, [.rows 45]⟩
def zl74a : St → Option LR := L1 30 5 0 zq74a (.exit 0) zq74ae0 (fun s => T_keep_made_l1 s.1 s.2.1 s.2.2)
theorem zk74a : PieceOk (zy74).env 0 (sub zc74 [0, 1, 0, 1, 1]) zl74a :=
  loop1 (A := za74a) zh74 Facts.mix trivial (k := loopB (sub zc74 [0, 1, 0, 1, 1])) (by kernel_rfl) rfl (by rintro ⟨x0, x1, x2⟩; kernel_rfl)
def za74 : Ann := ⟨[([0, 1, 0, 1, 1], zl74a)], [], [], zv74, []⟩
def T_keep_made (a0 : (List Int)) : Tr ((List Power)) :=
  (.bind (sh_keep_made_l1 a0 0 []) fun v2 =>
  (.leaf v2))
def sh_keep_made (a0 : (List Int)) : Option ((List Power)) := (T_keep_made a0).run
def zr74 : LQ ((List Int)) := (Par.q intsP)
def qr_keep_made : LQ ((List Power)) := (Par.q powersP)
def F_keep_made : SpecT := specF 0 zr74 1 [] (fun s => T_keep_made s) default qr_keep_made 1 []
theorem ok_keep_made : SpecOk Try.prog 40 (F_keep_made).spec :=
  specF_ok (A := za74) zh74 Facts.mix Try.func40 (c := zc74) (by kernel_rfl) (Lc := 0) ⟨zk74a, trivial⟩ zr74 1 5 [] (fun s => T_keep_made s) default qr_keep_made 1 [] [.pub 2] (by decide) (by kernel_rfl) (by rfl) (by decide) (by decide) (by rfl)
    (by rintro a0; kernel_rfl)

noncomputable def zc75 : Code := Try.f41.body.getD .skip
def zv75 : List (List Nat) := [[0, 1], [0, 1, 10], [4], [0, 1, 5], [0, 1, 5, 14], [0, 1, 5], [0, 1, 5, 25], [4], [4]]
noncomputable def zy75 : EnvT := ⟨Try.prog, lookT []⟩
theorem zh75 : (zy75).Ok := lookT_ok trivial
def T_keep_samePowers_l1 (x0 : (List Power)) (x1 : (List Power)) (x2 : Int) : Tr (((List Power) × (List Power) × Int) ⊕ ((Bool) ⊕ (Unit))) :=
  (.ite (decide (x2 < ((x0.length : Nat) : Int)))
    (.guard ((0 : Int) ≤ x2 ∧ x2 < ((Sl.len (.powers x0) : Nat) : Int))
    (.guard ((0 : Int) ≤ x2 ∧ x2 < ((Sl.len (.powers x1) : Nat) : Int))
    (.ite (!((((x0.getD x2.toNat default).V) == ((x1.getD x2.toNat default).V)) && ((((x0.getD x2.toNat default).N) == ((x1.getD x2.toNat default).N)) && true)))
      (.leaf (.inr (.inl false)))
      (.leaf (.inl (x0, x1, IntKind.i64.wrap (x2 + 1)))))))
    (.leaf (.inr (.inr ()))))
def sh_keep_samePowers_l1 (x0 : (List Power)) (x1 : (List Power)) (x2 : Int) : Option ((Bool) ⊕ (Unit)) := iter (fun s : (List Power) × (List Power) × Int => (T_keep_samePowers_l1 s.1 s.2.1 s.2.2).run) (x0, x1, x2)
def za75a : Ann := ⟨[], [], [], zv75, []⟩
def zq75a : EndD ((List Power) × (List Power) × Int) := ⟨(LQ.seq (Par.q powersP) (LQ.seq (Par.q powersP) (Par.q intP))), ⟨[0, 1, 5], [.pub 0, .nilsl 0 (.powers []), .pub 1, .nilsl 1 (.powers [])]⟩, []⟩
def zq75ae0 : EndD (Bool) := ⟨(Par.q boolP), ⟨[4], []⟩, []⟩
def zq75ae1 : EndD (Unit) := ⟨LQ.nil, ⟨[], []⟩, []⟩
def zl75a : St → Option LR := L2 26 2 0 zq75a .ret zq75ae0 (.exit 0) zq75ae1 (fun s => T_keep_samePowers_l1 s.1 s.2.1 s.2.2)
theorem zk75a : PieceOk (zy75).env 0 (sub zc75 [0, 1, 0, 1, 1]) zl75a :=
  loop2 (A := za75a) zh75 Facts.mix trivial (k := loopB (sub zc75 [0, 1, 0, 1, 1])) (by kernel_rfl) rfl rfl (by rintro ⟨x0, x1, x2⟩; kernel_rfl)
def za75 : Ann := ⟨[([0, 1, 0, 1, 1], zl75a)], [], [], zv75, []⟩
def T_keep_samePowers (a0 : (List Power)) (a1 : (List Power)) : Tr (Bool) :=
  (.ite (((a0.length : Nat) : Int) != ((a1.length : Nat) : Int))
    (.leaf false)
    (.two (sh_keep_samePowers_l1 a0 a1 0) (fun v1 =>
      (.leaf v1)) (fun v2 =>
      (.leaf true))))
def sh_keep_samePowers (a0 : (List Power)) (a1 : (List Power)) : Option (Bool) := (T_keep_samePowers a0 a1).run
def zr75 : LQ ((List Power) × (List Power)) := (LQ.seq (Par.q powersP) (Par.q powersP))
def qr_keep_samePowers : LQ (Bool) := (Par.q boolP)
def F_keep_samePowers : SpecT := specF 0 zr75 2 [] (fun s => T_keep_samePowers s.1 s.2) default qr_keep_samePowers 1 []
theorem ok_keep_samePowers : SpecOk Try.prog 41 (F_keep_samePowers).spec :=
  specF_ok (A := za75) zh75 Facts.mix Try.func41 (c := zc75) (by kernel_rfl) (Lc := 0) ⟨zk75a, trivial⟩ zr75 2 2 [] (fun s => T_keep_samePowers s.1 s.2) default qr_keep_samePowers 1 [] [] (by decide) (by kernel_rfl) (by rfl) (by decide) (by decide) (by rfl)
    (by rintro ⟨a0, a1⟩; kernel_rfl)

noncomputable def zc76 : Code := Try.f34.body.getD .skip
def zv76 : List (List Nat) := [[0], [2]]
noncomputable def zy76 : EnvT := ⟨Try.prog, lookT []⟩
theorem zh76 : (zy76).Ok := lookT_ok trivial
def za76 : Ann := ⟨[], [], [], zv76, []⟩
def T_law_powers (a0 : (List Power)) : Tr ((List Power)) :=
  (.guard ((0 + Sl.len (.powers a0)) * 16 ≤ 140737488355328)
  (.leaf a0))
def sh_law_powers (a0 : (List Power)) : Option ((List Power)) := (T_law_powers a0).run
def zr76 : LQ ((List Power)) := (Par.q powersP)
def qr_law_powers : LQ ((List Power)) := (Par.q powersP)
def F_law_powers : SpecT := specF 0 zr76 1 [] (fun s => T_law_powers s) default qr_law_powers 1 []
theorem ok_law_powers : SpecOk Try.prog 34 (F_law_powers).spec :=
  specF_ok (A := za76) zh76 Facts.mix Try.func34 (c := zc76) (by kernel_rfl) (Lc := 0) trivial zr76 1 3 [] (fun s => T_law_powers s) default qr_law_powers 1 [] [.pub 2] (by decide) (by kernel_rfl) (by rfl) (by decide) (by decide) (by rfl)
    (by rintro a0; kernel_rfl)

noncomputable def zc77 : Code := Try.f25.body.getD .skip
def zv77 : List (List Nat) := [[1], [1, 3], [3, 8, 9], [3, 8, 9, 10], [3, 4, 5, 8, 9], [3, 4, 5, 6, 8, 9], [3, 4, 6, 8, 9, 22], [3, 8, 9], [3, 8, 9], [3], [3], [3], [2]]
noncomputable def zy77 : EnvT := ⟨Try.prog, lookT [(64, F_sort_SliceStable), (66, F_sort_Slice)]⟩
theorem zh77 : (zy77).Ok := lookT_ok ⟨ok_sort_SliceStable, ok_sort_Slice, trivial⟩
def T_stake_Set_l1 (x0 : (A6 Validator)) (x1 : Int) (x2 : (List Power)) : Tr (((A6 Validator) × Int × (List Power)) ⊕ ((List Power))) :=
  (.ite (decide (x1 < 6))
    (.guard ((0 : Int) ≤ x1 ∧ (x1 : Int) < 6)
    (.guard ((100 : Int) ≠ 0)
    (.ite ((!(A6.get ⟨x0.x0.Jailed, x0.x1.Jailed, x0.x2.Jailed, x0.x3.Jailed, x0.x4.Jailed, x0.x5.Jailed⟩ x1)) && (decide ((IntKind.i64.wrap (Int.tdiv (A6.get ⟨x0.x0.Tokens, x0.x1.Tokens, x0.x2.Tokens, x0.x3.Tokens, x0.x4.Tokens, x0.x5.Tokens⟩ x1) 100)) > 0)))
      (.guard ((Sl.len (.powers x2) + Sl.len (.powers [(⟨x1, IntKind.i64.wrap (Int.tdiv (A6.get ⟨x0.x0.Tokens, x0.x1.Tokens, x0.x2.Tokens, x0.x3.Tokens, x0.x4.Tokens, x0.x5.Tokens⟩ x1) 100)⟩ : Power)])) * 16 ≤ 140737488355328)
      (.leaf (.inl (x0, IntKind.i64.wrap (x1 + 1), x2 ++ [(⟨x1, IntKind.i64.wrap (Int.tdiv (A6.get ⟨x0.x0.Tokens, x0.x1.Tokens, x0.x2.Tokens, x0.x3.Tokens, x0.x4.Tokens, x0.x5.Tokens⟩ x1) 100)⟩ : Power)]))))
      (.leaf (.inl (x0, IntKind.i64.wrap (x1 + 1), x2))))))
    (.leaf (.inr x2)))
def sh_stake_Set_l1 (x0 : (A6 Validator)) (x1 : Int) (x2 : (List Power)) : Option ((List Power)) := iter (fun s : (A6 Validator) × Int × (List Power) => (T_stake_Set_l1 s.1 s.2.1 s.2.2).run) (x0, x1, x2)
def za77a : Ann := ⟨[], [], [], zv77, []⟩
def zq77a : EndD ((A6 Validator) × Int × (List Power)) := ⟨(LQ.skip (LQ.const (.ptr 0 0)) (LQ.seq (Par.q (Par.ofLP (a6L validatorL))) (LQ.seq (Par.q intP) (LQ.skip (LQ.const (.own 1)) (Par.q powersP))))), ⟨[3, 8, 9], [.nilcell 3 0 45 (.powers [])]⟩, [.cells 42 1, .rows 45]⟩
def zq77ae0 : EndD ((List Power)) := ⟨(LQ.skip (LQ.const (.ptr 0 0)) (LQ.skip (LQ.const (.own 1)) (Par.q powersP))), ⟨[3], [.nilcell 3 0 45 (.powers [])]⟩, [.cells 42 1, .rows 45]⟩
def zl77a : St → Option LR := L1 44 7 0 zq77a (.exit 0) zq77ae0 (fun s => T_stake_Set_l1 s.1 s.2.1 s.2.2)
theorem zk77a : PieceOk (zy77).env 0 (sub zc77 [0, 1, 0, 1, 1]) zl77a :=
  loop1 (A := za77a) zh77 Facts.mix trivial (k := loopB (sub zc77 [0, 1, 0, 1, 1])) (by kernel_rfl) rfl (by rintro ⟨x0, x1, x2⟩; kernel_rfl)
def za77 : Ann := ⟨[([0, 1, 0, 1, 1], zl77a)], [], [], zv77, []⟩
def T_stake_Set (a0 : Stake) : Tr ((List Power)) :=
  (.bind (sh_stake_Set_l1 (⟨(⟨a0.Validators.Tokens.x0, a0.Validators.Shares.x0, a0.Validators.Lost.x0, a0.Validators.Jailed.x0, a0.Validators.Dead.x0⟩ : Validator), (⟨a0.Validators.Tokens.x1, a0.Validators.Shares.x1, a0.Validators.Lost.x1, a0.Validators.Jailed.x1, a0.Validators.Dead.x1⟩ : Validator), (⟨a0.Validators.Tokens.x2, a0.Validators.Shares.x2, a0.Validators.Lost.x2, a0.Validators.Jailed.x2, a0.Validators.Dead.x2⟩ : Validator), (⟨a0.Validators.Tokens.x3, a0.Validators.Shares.x3, a0.Validators.Lost.x3, a0.Validators.Jailed.x3, a0.Validators.Dead.x3⟩ : Validator), (⟨a0.Validators.Tokens.x4, a0.Validators.Shares.x4, a0.Validators.Lost.x4, a0.Validators.Jailed.x4, a0.Validators.Dead.x4⟩ : Validator), (⟨a0.Validators.Tokens.x5, a0.Validators.Shares.x5, a0.Validators.Lost.x5, a0.Validators.Jailed.x5, a0.Validators.Dead.x5⟩ : Validator)⟩ : (A6 Validator)) 0 []) fun v1 =>
  (.bind (sh_sort_SliceStable v1) fun v2 =>
  (.guard ((0 : Int) ≤ (if 4 < ((v2.length : Nat) : Int) then 4 else ((v2.length : Nat) : Int)) ∧ (if 4 < ((v2.length : Nat) : Int) then 4 else ((v2.length : Nat) : Int)) ≤ ((Sl.len (.powers v2) : Nat) : Int))
  (.bind (sh_sort_Slice ((v2.drop 0).take ((if 4 < ((v2.length : Nat) : Int) then 4 else ((v2.length : Nat) : Int)).toNat - 0))) fun v3 =>
  (.leaf v3)))))
def sh_stake_Set (a0 : Stake) : Option ((List Power)) := (T_stake_Set a0).run
def zr77 : LQ (Stake) := (Par.q (Par.ofLP stakeL))
def qr_stake_Set : LQ ((List Power)) := (Par.q powersP)
def F_stake_Set : SpecT := specF 0 zr77 1 [] (fun s => T_stake_Set s) default qr_stake_Set 1 []
theorem ok_stake_Set : SpecOk Try.prog 25 (F_stake_Set).spec :=
  specF_ok (A := za77) zh77 Facts.mix Try.func25 (c := zc77) (by kernel_rfl) (Lc := 0) ⟨zk77a, trivial⟩ zr77 1 7 [] (fun s => T_stake_Set s) default qr_stake_Set 1 [] [.pub 2] (by decide) (by kernel_rfl) (by rfl) (by decide) (by decide) (by rfl)
    (by rintro a0; kernel_rfl)

end
end Go.Proofs.Ytbpehnghffljiaa.Ab
