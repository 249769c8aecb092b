/-
  The functions, each by its tree.
-/
import Derived.Test.YtmakmlnfbdablaaGreatXAbFun
import Derived.Test.YtmakmlnfbdablaaGreatXAbSort2
import Derived.Test.YtmakmlnfbdablaaGreatXAbStructs
import Derived.Test.YtmakmlnfbdablaaGreatXFBank
import Derived.Test.YtmakmlnfbdablaaGreatXFRatio
import Derived.Test.YtmakmlnfbdablaaGreatXFacts
namespace Go.Proofs.YtmakmlnfbdablaaGreat.Ab
open Go Go.RowKit
set_option maxRecDepth 100000
set_option linter.unusedVariables false
set_option linter.unusedSimpArgs false
noncomputable section
noncomputable def zc63 : Code := Tryz.f68.body.getD .skip
def zv63 : List (List Nat) := [[0, 1], [1, 7, 8, 9], [1, 7, 8, 9, 10], [1, 6, 7, 8, 9], [1, 6, 7, 8, 9, 16], [4], [1, 7, 8, 9], [4]]
noncomputable def zy63 : EnvT := ⟨Tryz.prog, zt []⟩
theorem zh63 : (zy63).Ok := zd trivial
def zg6 (x0 : Int) (x1 : (List Power)) (x2 : Int) (x3 : Int) : Tr ((Int × (List Power) × Int × Int) ⊕ ((Int) ⊕ (Unit))) :=
  (.ite (decide (x3 < x2))
    (.guard ((0 : Int) ≤ x3 ∧ x3 < ((Sl.len (.powers x1) : Nat) : Int))
    (.ite (((x1.getD x3.toNat default).V) == x0)
      (.leaf (.inr (.inl ((x1.getD x3.toNat default).N))))
      (.leaf (.inl (x0, x1, x2, IntKind.i64.wrap (x3 + 1))))))
    (.leaf (.inr (.inr ()))))
def zt3 (x0 : Int) (x1 : (List Power)) (x2 : Int) (x3 : Int) : Option ((Int) ⊕ (Unit)) := ze1 (fun s : Int × (List Power) × Int × Int => (zg6 s.1 s.2.1 s.2.2.1 s.2.2.2).run) (x0, x1, x2, x3)
def zazf : Ann := ⟨[], [], [], zv63, []⟩
def zazg : EndD (Int × (List Power) × Int × Int) := ⟨(LQ.seq (Par.q intP) (LQ.seq (Par.q zp) (LQ.seq (Par.q intP) (Par.q intP)))), ⟨[1, 7, 8, 9], [.pub 7, .nilsl 7 (.powers [])]⟩, []⟩
def zap4 : EndD (Int) := ⟨(Par.q intP), ⟨[4], []⟩, []⟩
def zap5 : EndD (Unit) := ⟨LQ.nil, ⟨[], []⟩, []⟩
def zats : St → Option LR := L2 20 3 0 zazg .ret zap4 (.exit 0) zap5 (fun s => zg6 s.1 s.2.1 s.2.2.1 s.2.2.2)
theorem zazh : zv (zy63).env 0 (sub zc63 [0, 1, 0, 1]) zats :=
  zs3 (A := zazf) zh63 Facts.mix trivial (k := zdk (sub zc63 [0, 1, 0, 1])) (by kernel_rfl) rfl rfl (by rintro ⟨x0, x1, x2, x3⟩; kernel_rfl)
def za63 : Ann := ⟨[([0, 1, 0, 1], zats)], [], [], zv63, []⟩
def zqr (a0 : (List Power)) (a1 : Int) : Tr (Int) :=
  (.two (zt3 a1 a0 ((a0.length : Nat) : Int) 0) (fun v1 =>
    (.leaf v1)) (fun v2 =>
    (.leaf 0)))
def zkh (a0 : (List Power)) (a1 : Int) : Option (Int) := (zqr a0 a1).run
def zr63 : LQ ((List Power) × Int) := (LQ.seq (Par.q zp) (Par.q intP))
def z0o : LQ (Int) := (Par.q intP)
def zvb : SpecT := zu 0 zr63 2 [] (fun s => zqr s.1 s.2) default z0o 1 []
theorem z0p : zh Tryz.prog 68 (zvb).spec :=
  ze (A := za63) zh63 Facts.mix Tryz.func68 (c := zc63) (by kernel_rfl) (Lc := 0) ⟨zazh, trivial⟩ zr63 2 3 [] (fun s => zqr s.1 s.2) default z0o 1 [] [] (by decide) (by kernel_rfl) (by rfl) (by decide) (by decide) (by rfl)
    (by rintro ⟨a0, a1⟩; kernel_rfl)
noncomputable def zc64 : Code := Tryz.f132.body.getD .skip
def zv64 : List (List Nat) := [[0, 1], [0, 1, 5], [0, 1, 5, 8], [0, 1, 5, 8, 9], [0, 1, 5, 6, 8], [0, 1, 5, 6, 7, 8], [0, 1, 5, 6, 7, 8, 18], [0, 1, 5, 8], [0, 1, 5, 8], [4]]
noncomputable def zy64 : EnvT := ⟨Tryz.prog, zt [(68, zvb)]⟩
theorem zh64 : (zy64).Ok := zd ⟨z0p, trivial⟩
def zg7 (x0 : (List Power)) (x1 : (List Power)) (x2 : Int) (x3 : (List Power)) : Tr (((List Power) × (List Power) × Int × (List Power)) ⊕ ((List Power))) :=
  (.ite (decide (x2 < 6))
    (.bind (zkh x1 x2) fun v1 =>
    (.bind (zkh x0 x2) fun v2 =>
    (.ite (v1 != v2)
      (.guard ((Sl.len (.powers x3) + Sl.len (.powers [(⟨x2, v1⟩ : Power)])) * 16 ≤ 140737488355328)
      (.leaf (.inl (x0, x1, IntKind.i64.wrap (x2 + 1), x3 ++ [(⟨x2, v1⟩ : Power)]))))
      (.leaf (.inl (x0, x1, IntKind.i64.wrap (x2 + 1), x3))))))
    (.leaf (.inr x3)))
def znh (x0 : (List Power)) (x1 : (List Power)) (x2 : Int) (x3 : (List Power)) : Option ((List Power)) := ze1 (fun s : (List Power) × (List Power) × Int × (List Power) => (zg7 s.1 s.2.1 s.2.2.1 s.2.2.2).run) (x0, x1, x2, x3)
def zazj : Ann := ⟨[], [], [], zv64, []⟩
def zazk : EndD ((List Power) × (List Power) × Int × (List Power)) := ⟨(LQ.seq (Par.q zp) (LQ.seq (Par.q zp) (LQ.skip (LQ.const (.own 0)) (LQ.seq (Par.q intP) (Par.q zp))))), ⟨[0, 1, 5, 8], [.pub 0, .nilsl 0 (.powers []), .pub 1, .nilsl 1 (.powers []), .nilown 5 83 (.powers [])]⟩, [.rows 83]⟩
def zap6 : EndD ((List Power)) := ⟨(LQ.skip (LQ.const (.own 0)) (Par.q zp)), ⟨[5], [.nilown 5 83 (.powers [])]⟩, [.rows 83]⟩
def zatt : St → Option LR := L1 27 5 0 zazk (.exit 0) zap6 (fun s => zg7 s.1 s.2.1 s.2.2.1 s.2.2.2)
theorem zazl : zv (zy64).env 0 (sub zc64 [0, 1, 0, 1, 1]) zatt :=
  zii (A := zazj) zh64 Facts.mix trivial (k := zdk (sub zc64 [0, 1, 0, 1, 1])) (by kernel_rfl) rfl (by rintro ⟨x0, x1, x2, x3⟩; kernel_rfl)
def za64 : Ann := ⟨[([0, 1, 0, 1, 1], zatt)], [], [], zv64, []⟩
def zqs (a0 : (List Power)) (a1 : (List Power)) : Tr ((List Power)) :=
  (.bind (znh a0 a1 0 []) fun v3 =>
  (.leaf v3))
def zem (a0 : (List Power)) (a1 : (List Power)) : Option ((List Power)) := (zqs a0 a1).run
def zr64 : LQ ((List Power) × (List Power)) := (LQ.seq (Par.q zp) (Par.q zp))
def z0q : LQ ((List Power)) := (Par.q zp)
def z2k : SpecT := zu 0 zr64 2 [] (fun s => zqs s.1 s.2) default z0q 1 []
theorem z86 : zh Tryz.prog 132 (z2k).spec :=
  ze (A := za64) zh64 Facts.mix Tryz.func132 (c := zc64) (by kernel_rfl) (Lc := 0) ⟨zazl, trivial⟩ zr64 2 5 [] (fun s => zqs s.1 s.2) default z0q 1 [] [.pub 4] (by decide) (by kernel_rfl) (by rfl) (by decide) (by decide) (by rfl)
    (by rintro ⟨a0, a1⟩; kernel_rfl)
noncomputable def zc65 : Code := Tryz.f36.body.getD .skip
def zv65 : List (List Nat) := [[0, 1], [0, 1, 5], [0, 1, 5, 10], [0, 1, 5, 10, 11], [0, 1, 5, 6, 10], [0, 1, 5, 6, 7, 10], [0, 1, 5, 6, 7, 10, 16, 17, 18], [0, 1, 5, 6, 7, 10, 16, 17, 18, 19], [0, 1, 5, 6, 7, 9, 10, 16, 17, 18], [0, 1, 5, 6, 7, 9, 10, 16, 17, 18, 25], [0, 1, 5, 6, 7, 10, 16, 17, 18], [0, 1, 5, 6, 7, 10, 16, 17, 18], [0, 1, 5, 6, 7, 10, 30], [0, 1, 5, 10], [0, 1, 5, 10], [4]]
noncomputable def zy65 : EnvT := ⟨Tryz.prog, zt [(68, zvb)]⟩
theorem zh65 : (zy65).Ok := zd ⟨z0p, trivial⟩
def zge (x0 : (List Power)) (x1 : (List Power)) (x2 : Int) (x3 : Int) (x4 : Int) (x5 : (List Power)) (x6 : Int) (x7 : Int) (x8 : (List Power)) : Tr (((List Power) × (List Power) × Int × Int × Int × (List Power) × Int × Int × (List Power)) ⊕ ((List Power) × (List Power) × Int × Int × Int × (List Power))) :=
  (.ite (decide (x7 < x6))
    (.guard ((0 : Int) ≤ x7 ∧ x7 < ((Sl.len (.powers x5) : Nat) : Int))
    (.ite (((x5.getD x7.toNat default).V) == x2)
      (.leaf (.inl (x0, x1, x2, (x5.getD x7.toNat default).N, x4, x5, x6, IntKind.i64.wrap (x7 + 1), x8)))
      (.leaf (.inl (x0, x1, x2, x3, x4, x5, x6, IntKind.i64.wrap (x7 + 1), x8)))))
    (.leaf (.inr (x0, x1, x2, x3, x4, x8))))
def zlp (x0 : (List Power)) (x1 : (List Power)) (x2 : Int) (x3 : Int) (x4 : Int) (x5 : (List Power)) (x6 : Int) (x7 : Int) (x8 : (List Power)) : Option ((List Power) × (List Power) × Int × Int × Int × (List Power)) := ze1 (fun s : (List Power) × (List Power) × Int × Int × Int × (List Power) × Int × Int × (List Power) => (zge s.1 s.2.1 s.2.2.1 s.2.2.2.1 s.2.2.2.2.1 s.2.2.2.2.2.1 s.2.2.2.2.2.2.1 s.2.2.2.2.2.2.2.1 s.2.2.2.2.2.2.2.2).run) (x0, x1, x2, x3, x4, x5, x6, x7, x8)
def zazp : Ann := ⟨[], [], [], zv65, []⟩
def zazq : EndD ((List Power) × (List Power) × Int × Int × Int × (List Power) × Int × Int × (List Power)) := ⟨(LQ.seq (Par.q zp) (LQ.seq (Par.q zp) (LQ.skip (LQ.const (.own 0)) (LQ.seq (Par.q intP) (LQ.seq (Par.q intP) (LQ.seq (Par.q intP) (LQ.seq (Par.q zp) (LQ.seq (Par.q intP) (LQ.seq (Par.q intP) (Par.q zp)))))))))), ⟨[0, 1, 5, 6, 7, 10, 16, 17, 18], [.pub 0, .nilsl 0 (.powers []), .pub 1, .nilsl 1 (.powers []), .nilown 5 83 (.powers []), .pub 16, .nilsl 16 (.powers [])]⟩, [.rows 83]⟩
def zap7 : EndD ((List Power) × (List Power) × Int × Int × Int × (List Power)) := ⟨(LQ.seq (Par.q zp) (LQ.seq (Par.q zp) (LQ.skip (LQ.const (.own 0)) (LQ.seq (Par.q intP) (LQ.seq (Par.q intP) (LQ.seq (Par.q intP) (Par.q zp))))))), ⟨[0, 1, 5, 6, 7, 10], [.pub 0, .nilsl 0 (.powers []), .pub 1, .nilsl 1 (.powers []), .nilown 5 83 (.powers [])]⟩, [.rows 83]⟩
def zatv : St → Option LR := L1 39 5 0 zazq (.exit 2) zap7 (fun s => zge s.1 s.2.1 s.2.2.1 s.2.2.2.1 s.2.2.2.2.1 s.2.2.2.2.2.1 s.2.2.2.2.2.2.1 s.2.2.2.2.2.2.2.1 s.2.2.2.2.2.2.2.2)
theorem zazr : zv (zy65).env 0 (sub zc65 [0, 1, 0, 1, 1, 0, 0, 1, 1, 0, 0, 1, 0, 1, 1]) zatv :=
  zii (A := zazp) zh65 Facts.mix trivial (k := zdk (sub zc65 [0, 1, 0, 1, 1, 0, 0, 1, 1, 0, 0, 1, 0, 1, 1])) (by kernel_rfl) rfl (by rintro ⟨x0, x1, x2, x3, x4, x5, x6, x7, x8⟩; kernel_rfl)
def zgf (x0 : (List Power)) (x1 : (List Power)) (x2 : Int) (x3 : (List Power)) : Tr (((List Power) × (List Power) × Int × (List Power)) ⊕ ((List Power))) :=
  (.ite (decide (x2 < 6))
    (.bind (zkh x0 x2) fun v1 =>
    (.bind (zlp x0 x1 x2 v1 x2 x1 ((x1.length : Nat) : Int) 0 x3) fun v2 =>
    (.ite (decide (v2.2.2.2.1 > 0))
      (.guard ((Sl.len (.powers v2.2.2.2.2.2) + Sl.len (.powers [(⟨v2.2.2.1, v2.2.2.2.1⟩ : Power)])) * 16 ≤ 140737488355328)
      (.leaf (.inl (v2.1, v2.2.1, IntKind.i64.wrap (v2.2.2.2.2.1 + 1), v2.2.2.2.2.2 ++ [(⟨v2.2.2.1, v2.2.2.2.1⟩ : Power)]))))
      (.leaf (.inl (v2.1, v2.2.1, IntKind.i64.wrap (v2.2.2.2.2.1 + 1), v2.2.2.2.2.2))))))
    (.leaf (.inr x3)))
def zlq (x0 : (List Power)) (x1 : (List Power)) (x2 : Int) (x3 : (List Power)) : Option ((List Power)) := ze1 (fun s : (List Power) × (List Power) × Int × (List Power) => (zgf s.1 s.2.1 s.2.2.1 s.2.2.2).run) (x0, x1, x2, x3)
def zazs : Ann := ⟨[([0, 1, 0, 1, 1, 0, 0, 1, 1, 0, 0, 1, 0, 1, 1], zatv)], [], [], zv65, []⟩
def zazt : EndD ((List Power) × (List Power) × Int × (List Power)) := ⟨(LQ.seq (Par.q zp) (LQ.seq (Par.q zp) (LQ.skip (LQ.const (.own 0)) (LQ.seq (Par.q intP) (Par.q zp))))), ⟨[0, 1, 5, 10], [.pub 0, .nilsl 0 (.powers []), .pub 1, .nilsl 1 (.powers []), .nilown 5 83 (.powers [])]⟩, [.rows 83]⟩
def zap8 : EndD ((List Power)) := ⟨(LQ.skip (LQ.const (.own 0)) (Par.q zp)), ⟨[5], [.nilown 5 83 (.powers [])]⟩, [.rows 83]⟩
def zatw : St → Option LR := L1 39 5 0 zazt (.exit 0) zap8 (fun s => zgf s.1 s.2.1 s.2.2.1 s.2.2.2)
theorem zazu : zv (zy65).env 0 (sub zc65 [0, 1, 0, 1, 1]) zatw :=
  zii (A := zazs) zh65 Facts.mix ⟨zazr, trivial⟩ (k := zdk (sub zc65 [0, 1, 0, 1, 1])) (by kernel_rfl) rfl (by rintro ⟨x0, x1, x2, x3⟩; kernel_rfl)
def za65 : Ann := ⟨[([0, 1, 0, 1, 1], zatw)], [], [], zv65, []⟩
def zor (a0 : (List Power)) (a1 : (List Power)) : Tr ((List Power)) :=
  (.bind (zlq a0 a1 0 []) fun v3 =>
  (.leaf v3))
def zrh (a0 : (List Power)) (a1 : (List Power)) : Option ((List Power)) := (zor a0 a1).run
def zr65 : LQ ((List Power) × (List Power)) := (LQ.seq (Par.q zp) (Par.q zp))
def zx1 : LQ ((List Power)) := (Par.q zp)
def z0r : SpecT := zu 0 zr65 2 [] (fun s => zor s.1 s.2) default zx1 1 []
theorem z6o : zh Tryz.prog 36 (z0r).spec :=
  ze (A := za65) zh65 Facts.mix Tryz.func36 (c := zc65) (by kernel_rfl) (Lc := 0) ⟨zazu, trivial⟩ zr65 2 5 [] (fun s => zor s.1 s.2) default zx1 1 [] [.pub 4] (by decide) (by kernel_rfl) (by rfl) (by decide) (by decide) (by rfl)
    (by rintro ⟨a0, a1⟩; kernel_rfl)
noncomputable def zc66 : Code := Tryz.f34.body.getD .skip
def zv66 : List (List Nat) := [[0], [0, 3], [3, 6, 7, 8], [3, 6, 7, 8, 9], [3, 5, 6, 7, 8], [3, 6, 7, 8], [3, 6, 7, 8], [2]]
noncomputable def zy66 : EnvT := ⟨Tryz.prog, zt []⟩
theorem zh66 : (zy66).Ok := zd trivial
def ziv (x0 : Int) (x1 : (List Power)) (x2 : Int) (x3 : Int) : Tr ((Int × (List Power) × Int × Int) ⊕ (Int)) :=
  (.ite (decide (x3 < x2))
    (.guard ((0 : Int) ≤ x3 ∧ x3 < ((Sl.len (.powers x1) : Nat) : Int))
    (.leaf (.inl (IntKind.i64.wrap (x0 + ((x1.getD x3.toNat default).N)), x1, x2, IntKind.i64.wrap (x3 + 1)))))
    (.leaf (.inr x0)))
def zph (x0 : Int) (x1 : (List Power)) (x2 : Int) (x3 : Int) : Option (Int) := ze1 (fun s : Int × (List Power) × Int × Int => (ziv s.1 s.2.1 s.2.2.1 s.2.2.2).run) (x0, x1, x2, x3)
def zazw : Ann := ⟨[], [], [], zv66, []⟩
def zazx : EndD (Int × (List Power) × Int × Int) := ⟨(LQ.seq (Par.q intP) (LQ.seq (Par.q zp) (LQ.seq (Par.q intP) (Par.q intP)))), ⟨[3, 6, 7, 8], [.pub 6, .nilsl 6 (.powers [])]⟩, []⟩
def zap9 : EndD (Int) := ⟨(Par.q intP), ⟨[3], []⟩, []⟩
def zatx : St → Option LR := L1 18 3 0 zazx (.exit 0) zap9 (fun s => ziv s.1 s.2.1 s.2.2.1 s.2.2.2)
theorem zazy : zv (zy66).env 0 (sub zc66 [0, 1, 0, 1, 1]) zatx :=
  zii (A := zazw) zh66 Facts.mix trivial (k := zdk (sub zc66 [0, 1, 0, 1, 1])) (by kernel_rfl) rfl (by rintro ⟨x0, x1, x2, x3⟩; kernel_rfl)
def za66 : Ann := ⟨[([0, 1, 0, 1, 1], zatx)], [], [], zv66, []⟩
def zth (a0 : (List Power)) : Tr (Int) :=
  (.bind (zph 0 a0 ((a0.length : Nat) : Int) 0) fun v1 =>
  (.leaf v1))
def zg8 (a0 : (List Power)) : Option (Int) := (zth a0).run
def zr66 : LQ ((List Power)) := (Par.q zp)
def z2l : LQ (Int) := (Par.q intP)
def zyx : SpecT := zu 0 zr66 1 [] (fun s => zth s) default z2l 1 []
theorem z2m : zh Tryz.prog 34 (zyx).spec :=
  ze (A := za66) zh66 Facts.mix Tryz.func34 (c := zc66) (by kernel_rfl) (Lc := 0) ⟨zazy, trivial⟩ zr66 1 3 [] (fun s => zth s) default z2l 1 [] [] (by decide) (by kernel_rfl) (by rfl) (by decide) (by decide) (by rfl)
    (by rintro a0; kernel_rfl)
noncomputable def zc67 : Code := Tryz.f100.body.getD .skip
def zv67 : List (List Nat) := [[1], [1, 3], [3, 8, 9], [3, 8, 9, 10], [3, 4, 5, 8, 9], [3, 4, 5, 6, 8, 9], [3, 4, 6, 8, 9, 22], [3, 8, 9], [3, 8, 9], [3], [3], [3], [2]]
noncomputable def zy67 : EnvT := ⟨Tryz.prog, zt [(128, F_sort_SliceStable), (130, F_sort_Slice)]⟩
theorem zh67 : (zy67).Ok := zd ⟨zyg, z8j, trivial⟩
def ziw (x0 : (A6 zg)) (x1 : Int) (x2 : (List Power)) : Tr (((A6 zg) × Int × (List Power)) ⊕ ((List Power))) :=
  (.ite (decide (x1 < 6))
    (.guard ((0 : Int) ≤ x1 ∧ (x1 : Int) < 6)
    (.guard ((100 : Int) ≠ 0)
    (.ite ((!(A6.get ⟨x0.x0.Jailed, x0.x1.Jailed, x0.x2.Jailed, x0.x3.Jailed, x0.x4.Jailed, x0.x5.Jailed⟩ x1)) && (decide ((IntKind.i64.wrap (Int.tdiv (A6.get ⟨x0.x0.Tokens, x0.x1.Tokens, x0.x2.Tokens, x0.x3.Tokens, x0.x4.Tokens, x0.x5.Tokens⟩ x1) 100)) > 0)))
      (.guard ((Sl.len (.powers x2) + Sl.len (.powers [(⟨x1, IntKind.i64.wrap (Int.tdiv (A6.get ⟨x0.x0.Tokens, x0.x1.Tokens, x0.x2.Tokens, x0.x3.Tokens, x0.x4.Tokens, x0.x5.Tokens⟩ x1) 100)⟩ : Power)])) * 16 ≤ 140737488355328)
      (.leaf (.inl (x0, IntKind.i64.wrap (x1 + 1), x2 ++ [(⟨x1, IntKind.i64.wrap (Int.tdiv (A6.get ⟨x0.x0.Tokens, x0.x1.Tokens, x0.x2.Tokens, x0.x3.Tokens, x0.x4.Tokens, x0.x5.Tokens⟩ x1) 100)⟩ : Power)]))))
      (.leaf (.inl (x0, IntKind.i64.wrap (x1 + 1), x2))))))
    (.leaf (.inr x2)))
def zpi (x0 : (A6 zg)) (x1 : Int) (x2 : (List Power)) : Option ((List Power)) := ze1 (fun s : (A6 zg) × Int × (List Power) => (ziw s.1 s.2.1 s.2.2).run) (x0, x1, x2)
def zaz0 : Ann := ⟨[], [], [], zv67, []⟩
def zaz1 : EndD ((A6 zg) × Int × (List Power)) := ⟨(LQ.skip (LQ.const (.ptr 0 0)) (LQ.seq (Par.q (Par.ofLP (a6L zjq))) (LQ.seq (Par.q intP) (LQ.skip (LQ.const (.own 1)) (Par.q zp))))), ⟨[3, 8, 9], [.nilcell 3 0 83 (.powers [])]⟩, [.cells 47 1, .rows 83]⟩
def zaqa : EndD ((List Power)) := ⟨(LQ.skip (LQ.const (.ptr 0 0)) (LQ.skip (LQ.const (.own 1)) (Par.q zp))), ⟨[3], [.nilcell 3 0 83 (.powers [])]⟩, [.cells 47 1, .rows 83]⟩
def zaty : St → Option LR := L1 44 7 0 zaz1 (.exit 0) zaqa (fun s => ziw s.1 s.2.1 s.2.2)
theorem zaz2 : zv (zy67).env 0 (sub zc67 [0, 1, 0, 1, 1]) zaty :=
  zii (A := zaz0) zh67 Facts.mix trivial (k := zdk (sub zc67 [0, 1, 0, 1, 1])) (by kernel_rfl) rfl (by rintro ⟨x0, x1, x2⟩; kernel_rfl)
def za67 : Ann := ⟨[([0, 1, 0, 1, 1], zaty)], [], [], zv67, []⟩
def zti (a0 : Stake) : Tr ((List Power)) :=
  (.bind (zpi (⟨(⟨a0.Validators.Tokens.x0, a0.Validators.Shares.x0, a0.Validators.Lost.x0, a0.Validators.Jailed.x0, a0.Validators.Dead.x0⟩ : zg), (⟨a0.Validators.Tokens.x1, a0.Validators.Shares.x1, a0.Validators.Lost.x1, a0.Validators.Jailed.x1, a0.Validators.Dead.x1⟩ : zg), (⟨a0.Validators.Tokens.x2, a0.Validators.Shares.x2, a0.Validators.Lost.x2, a0.Validators.Jailed.x2, a0.Validators.Dead.x2⟩ : zg), (⟨a0.Validators.Tokens.x3, a0.Validators.Shares.x3, a0.Validators.Lost.x3, a0.Validators.Jailed.x3, a0.Validators.Dead.x3⟩ : zg), (⟨a0.Validators.Tokens.x4, a0.Validators.Shares.x4, a0.Validators.Lost.x4, a0.Validators.Jailed.x4, a0.Validators.Dead.x4⟩ : zg), (⟨a0.Validators.Tokens.x5, a0.Validators.Shares.x5, a0.Validators.Lost.x5, a0.Validators.Jailed.x5, a0.Validators.Dead.x5⟩ : zg)⟩ : (A6 zg)) 0 []) fun v1 =>
  (.bind (zo1 v1) fun v2 =>
  (.guard ((0 : Int) ≤ (if 4 < ((v2.length : Nat) : Int) then 4 else ((v2.length : Nat) : Int)) ∧ (if 4 < ((v2.length : Nat) : Int) then 4 else ((v2.length : Nat) : Int)) ≤ ((Sl.len (.powers v2) : Nat) : Int))
  (.bind (zzo ((v2.drop 0).take ((if 4 < ((v2.length : Nat) : Int) then 4 else ((v2.length : Nat) : Int)).toNat - 0))) fun v3 =>
  (.leaf v3)))))
def zvc (a0 : Stake) : Option ((List Power)) := (zti a0).run
def zr67 : LQ (Stake) := (Par.q (Par.ofLP stakeL))
def z2n : LQ ((List Power)) := (Par.q zp)
def z4t : SpecT := zu 0 zr67 1 [] (fun s => zti s) default z2n 1 []
theorem zaa0 : zh Tryz.prog 100 (z4t).spec :=
  ze (A := za67) zh67 Facts.mix Tryz.func100 (c := zc67) (by kernel_rfl) (Lc := 0) ⟨zaz2, trivial⟩ zr67 1 7 [] (fun s => zti s) default z2n 1 [] [.pub 2] (by decide) (by kernel_rfl) (by rfl) (by decide) (by decide) (by rfl)
    (by rintro a0; kernel_rfl)
end
end Go.Proofs.YtmakmlnfbdablaaGreat.Ab
