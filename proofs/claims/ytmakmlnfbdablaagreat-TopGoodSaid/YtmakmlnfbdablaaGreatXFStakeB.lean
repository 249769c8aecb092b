/-
  The functions, each by its tree.
-/
import Derived.Test.YtmakmlnfbdablaaGreatXAbFun
import Derived.Test.YtmakmlnfbdablaaGreatXAbSort2
import Derived.Test.YtmakmlnfbdablaaGreatXAbStructs
import Derived.Test.YtmakmlnfbdablaaGreatXFBank
import Derived.Test.YtmakmlnfbdablaaGreatXFRatio
import Derived.Test.YtmakmlnfbdablaaGreatXFacts
namespace Go.Proofs.YtmakmlnfbdablaaGreat.Ab
open Go Go.RowKit
set_option maxRecDepth 100000
set_option linter.unusedVariables false
set_option linter.unusedSimpArgs false
noncomputable section
noncomputable def zc63 : Code := Tryz.f68.body.getD .skip
def zv63 : List (List Nat) := [[0, 1], [1, 7, 8, 9], [1, 7, 8, 9, 10], [1, 6, 7, 8, 9], [1, 6, 7, 8, 9, 16], [4], [1, 7, 8, 9], [4]]
noncomputable def zy63 : EnvT := ⟨Tryz.prog, zq []⟩
theorem zh63 : (zy63).Ok := zc trivial
def zg4 (x0 : Int) (x1 : (List Power)) (x2 : Int) (x3 : Int) : Tr ((Int × (List Power) × Int × Int) ⊕ ((Int) ⊕ (Unit))) :=
  (.ite (decide (x3 < x2))
    (.guard ((0 : Int) ≤ x3 ∧ x3 < ((Sl.len (.powers x1) : Nat) : Int))
    (.ite (((x1.getD x3.toNat default).V) == x0)
      (.leaf (.inr (.inl ((x1.getD x3.toNat default).N))))
      (.leaf (.inl (x0, x1, x2, IntKind.i64.wrap (x3 + 1))))))
    (.leaf (.inr (.inr ()))))
def ztz (x0 : Int) (x1 : (List Power)) (x2 : Int) (x3 : Int) : Option ((Int) ⊕ (Unit)) := zel (fun s : Int × (List Power) × Int × Int => (zg4 s.1 s.2.1 s.2.2.1 s.2.2.2).run) (x0, x1, x2, x3)
def zay7 : Ann := ⟨[], [], [], zv63, []⟩
def zay8 : EndD (Int × (List Power) × Int × Int) := ⟨(LQ.seq (Par.q intP) (LQ.seq (Par.q zo) (LQ.seq (Par.q intP) (Par.q intP)))), ⟨[1, 7, 8, 9], [.pub 7, .nilsl 7 (.powers [])]⟩, []⟩
def zaps : EndD (Int) := ⟨(Par.q intP), ⟨[4], []⟩, []⟩
def zapt : EndD (Unit) := ⟨LQ.nil, ⟨[], []⟩, []⟩
def zatg : St → Option LR := L2 20 3 0 zay8 .ret zaps (.exit 0) zapt (fun s => zg4 s.1 s.2.1 s.2.2.1 s.2.2.2)
theorem zay9 : zu (zy63).env 0 (sub zc63 [0, 1, 0, 1]) zatg :=
  zra (A := zay7) zh63 Facts.mix trivial (k := zcw (sub zc63 [0, 1, 0, 1])) (by kernel_rfl) rfl rfl (by rintro ⟨x0, x1, x2, x3⟩; kernel_rfl)
def za63 : Ann := ⟨[([0, 1, 0, 1], zatg)], [], [], zv63, []⟩
def zqr (a0 : (List Power)) (a1 : Int) : Tr (Int) :=
  (.two (ztz a1 a0 ((a0.length : Nat) : Int) 0) (fun v1 =>
    (.leaf v1)) (fun v2 =>
    (.leaf 0)))
def zkb (a0 : (List Power)) (a1 : Int) : Option (Int) := (zqr a0 a1).run
def zr63 : LQ ((List Power) × Int) := (LQ.seq (Par.q zo) (Par.q intP))
def z0f : LQ (Int) := (Par.q intP)
def zvb : SpecT := zt 0 zr63 2 [] (fun s => zqr s.1 s.2) default z0f 1 []
theorem z0g : zg Tryz.prog 68 (zvb).spec :=
  zd (A := za63) zh63 Facts.mix Tryz.func68 (c := zc63) (by kernel_rfl) (Lc := 0) ⟨zay9, trivial⟩ zr63 2 3 [] (fun s => zqr s.1 s.2) default z0f 1 [] [] (by decide) (by kernel_rfl) (by rfl) (by decide) (by decide) (by rfl)
    (by rintro ⟨a0, a1⟩; kernel_rfl)
noncomputable def zc64 : Code := Tryz.f132.body.getD .skip
def zv64 : List (List Nat) := [[0, 1], [0, 1, 5], [0, 1, 5, 8], [0, 1, 5, 8, 9], [0, 1, 5, 6, 8], [0, 1, 5, 6, 7, 8], [0, 1, 5, 6, 7, 8, 18], [0, 1, 5, 8], [0, 1, 5, 8], [4]]
noncomputable def zy64 : EnvT := ⟨Tryz.prog, zq [(68, zvb)]⟩
theorem zh64 : (zy64).Ok := zc ⟨z0g, trivial⟩
def zg5 (x0 : (List Power)) (x1 : (List Power)) (x2 : Int) (x3 : (List Power)) : Tr (((List Power) × (List Power) × Int × (List Power)) ⊕ ((List Power))) :=
  (.ite (decide (x2 < 6))
    (.bind (zkb x1 x2) fun v1 =>
    (.bind (zkb x0 x2) fun v2 =>
    (.ite (v1 != v2)
      (.guard ((Sl.len (.powers x3) + Sl.len (.powers [(⟨x2, v1⟩ : Power)])) * 16 ≤ 140737488355328)
      (.leaf (.inl (x0, x1, IntKind.i64.wrap (x2 + 1), x3 ++ [(⟨x2, v1⟩ : Power)]))))
      (.leaf (.inl (x0, x1, IntKind.i64.wrap (x2 + 1), x3))))))
    (.leaf (.inr x3)))
def znf (x0 : (List Power)) (x1 : (List Power)) (x2 : Int) (x3 : (List Power)) : Option ((List Power)) := zel (fun s : (List Power) × (List Power) × Int × (List Power) => (zg5 s.1 s.2.1 s.2.2.1 s.2.2.2).run) (x0, x1, x2, x3)
def zazb : Ann := ⟨[], [], [], zv64, []⟩
def zazc : EndD ((List Power) × (List Power) × Int × (List Power)) := ⟨(LQ.seq (Par.q zo) (LQ.seq (Par.q zo) (LQ.skip (LQ.const (.own 0)) (LQ.seq (Par.q intP) (Par.q zo))))), ⟨[0, 1, 5, 8], [.pub 0, .nilsl 0 (.powers []), .pub 1, .nilsl 1 (.powers []), .nilown 5 83 (.powers [])]⟩, [.rows 83]⟩
def zapu : EndD ((List Power)) := ⟨(LQ.skip (LQ.const (.own 0)) (Par.q zo)), ⟨[5], [.nilown 5 83 (.powers [])]⟩, [.rows 83]⟩
def zath : St → Option LR := L1 27 5 0 zazc (.exit 0) zapu (fun s => zg5 s.1 s.2.1 s.2.2.1 s.2.2.2)
theorem zazd : zu (zy64).env 0 (sub zc64 [0, 1, 0, 1, 1]) zath :=
  zjd (A := zazb) zh64 Facts.mix trivial (k := zcw (sub zc64 [0, 1, 0, 1, 1])) (by kernel_rfl) rfl (by rintro ⟨x0, x1, x2, x3⟩; kernel_rfl)
def za64 : Ann := ⟨[([0, 1, 0, 1, 1], zath)], [], [], zv64, []⟩
def zqs (a0 : (List Power)) (a1 : (List Power)) : Tr ((List Power)) :=
  (.bind (znf a0 a1 0 []) fun v3 =>
  (.leaf v3))
def zed (a0 : (List Power)) (a1 : (List Power)) : Option ((List Power)) := (zqs a0 a1).run
def zr64 : LQ ((List Power) × (List Power)) := (LQ.seq (Par.q zo) (Par.q zo))
def z0h : LQ ((List Power)) := (Par.q zo)
def z2c : SpecT := zt 0 zr64 2 [] (fun s => zqs s.1 s.2) default z0h 1 []
theorem z83 : zg Tryz.prog 132 (z2c).spec :=
  zd (A := za64) zh64 Facts.mix Tryz.func132 (c := zc64) (by kernel_rfl) (Lc := 0) ⟨zazd, trivial⟩ zr64 2 5 [] (fun s => zqs s.1 s.2) default z0h 1 [] [.pub 4] (by decide) (by kernel_rfl) (by rfl) (by decide) (by decide) (by rfl)
    (by rintro ⟨a0, a1⟩; kernel_rfl)
noncomputable def zc65 : Code := Tryz.f36.body.getD .skip
def zv65 : List (List Nat) := [[0, 1], [0, 1, 5], [0, 1, 5, 10], [0, 1, 5, 10, 11], [0, 1, 5, 6, 10], [0, 1, 5, 6, 7, 10], [0, 1, 5, 6, 7, 10, 16, 17, 18], [0, 1, 5, 6, 7, 10, 16, 17, 18, 19], [0, 1, 5, 6, 7, 9, 10, 16, 17, 18], [0, 1, 5, 6, 7, 9, 10, 16, 17, 18, 25], [0, 1, 5, 6, 7, 10, 16, 17, 18], [0, 1, 5, 6, 7, 10, 16, 17, 18], [0, 1, 5, 6, 7, 10, 30], [0, 1, 5, 10], [0, 1, 5, 10], [4]]
noncomputable def zy65 : EnvT := ⟨Tryz.prog, zq [(68, zvb)]⟩
theorem zh65 : (zy65).Ok := zc ⟨z0g, trivial⟩
def zf5 (x0 : (List Power)) (x1 : (List Power)) (x2 : Int) (x3 : Int) (x4 : Int) (x5 : (List Power)) (x6 : Int) (x7 : Int) (x8 : (List Power)) : Tr (((List Power) × (List Power) × Int × Int × Int × (List Power) × Int × Int × (List Power)) ⊕ ((List Power) × (List Power) × Int × Int × Int × (List Power))) :=
  (.ite (decide (x7 < x6))
    (.guard ((0 : Int) ≤ x7 ∧ x7 < ((Sl.len (.powers x5) : Nat) : Int))
    (.ite (((x5.getD x7.toNat default).V) == x2)
      (.leaf (.inl (x0, x1, x2, (x5.getD x7.toNat default).N, x4, x5, x6, IntKind.i64.wrap (x7 + 1), x8)))
      (.leaf (.inl (x0, x1, x2, x3, x4, x5, x6, IntKind.i64.wrap (x7 + 1), x8)))))
    (.leaf (.inr (x0, x1, x2, x3, x4, x8))))
def zli (x0 : (List Power)) (x1 : (List Power)) (x2 : Int) (x3 : Int) (x4 : Int) (x5 : (List Power)) (x6 : Int) (x7 : Int) (x8 : (List Power)) : Option ((List Power) × (List Power) × Int × Int × Int × (List Power)) := zel (fun s : (List Power) × (List Power) × Int × Int × Int × (List Power) × Int × Int × (List Power) => (zf5 s.1 s.2.1 s.2.2.1 s.2.2.2.1 s.2.2.2.2.1 s.2.2.2.2.2.1 s.2.2.2.2.2.2.1 s.2.2.2.2.2.2.2.1 s.2.2.2.2.2.2.2.2).run) (x0, x1, x2, x3, x4, x5, x6, x7, x8)
def zazh : Ann := ⟨[], [], [], zv65, []⟩
def zazi : EndD ((List Power) × (List Power) × Int × Int × Int × (List Power) × Int × Int × (List Power)) := ⟨(LQ.seq (Par.q zo) (LQ.seq (Par.q zo) (LQ.skip (LQ.const (.own 0)) (LQ.seq (Par.q intP) (LQ.seq (Par.q intP) (LQ.seq (Par.q intP) (LQ.seq (Par.q zo) (LQ.seq (Par.q intP) (LQ.seq (Par.q intP) (Par.q zo)))))))))), ⟨[0, 1, 5, 6, 7, 10, 16, 17, 18], [.pub 0, .nilsl 0 (.powers []), .pub 1, .nilsl 1 (.powers []), .nilown 5 83 (.powers []), .pub 16, .nilsl 16 (.powers [])]⟩, [.rows 83]⟩
def zapv : EndD ((List Power) × (List Power) × Int × Int × Int × (List Power)) := ⟨(LQ.seq (Par.q zo) (LQ.seq (Par.q zo) (LQ.skip (LQ.const (.own 0)) (LQ.seq (Par.q intP) (LQ.seq (Par.q intP) (LQ.seq (Par.q intP) (Par.q zo))))))), ⟨[0, 1, 5, 6, 7, 10], [.pub 0, .nilsl 0 (.powers []), .pub 1, .nilsl 1 (.powers []), .nilown 5 83 (.powers [])]⟩, [.rows 83]⟩
def zatj : St → Option LR := L1 39 5 0 zazi (.exit 2) zapv (fun s => zf5 s.1 s.2.1 s.2.2.1 s.2.2.2.1 s.2.2.2.2.1 s.2.2.2.2.2.1 s.2.2.2.2.2.2.1 s.2.2.2.2.2.2.2.1 s.2.2.2.2.2.2.2.2)
theorem zazj : zu (zy65).env 0 (sub zc65 [0, 1, 0, 1, 1, 0, 0, 1, 1, 0, 0, 1, 0, 1, 1]) zatj :=
  zjd (A := zazh) zh65 Facts.mix trivial (k := zcw (sub zc65 [0, 1, 0, 1, 1, 0, 0, 1, 1, 0, 0, 1, 0, 1, 1])) (by kernel_rfl) rfl (by rintro ⟨x0, x1, x2, x3, x4, x5, x6, x7, x8⟩; kernel_rfl)
def zf6 (x0 : (List Power)) (x1 : (List Power)) (x2 : Int) (x3 : (List Power)) : Tr (((List Power) × (List Power) × Int × (List Power)) ⊕ ((List Power))) :=
  (.ite (decide (x2 < 6))
    (.bind (zkb x0 x2) fun v1 =>
    (.bind (zli x0 x1 x2 v1 x2 x1 ((x1.length : Nat) : Int) 0 x3) fun v2 =>
    (.ite (decide (v2.2.2.2.1 > 0))
      (.guard ((Sl.len (.powers v2.2.2.2.2.2) + Sl.len (.powers [(⟨v2.2.2.1, v2.2.2.2.1⟩ : Power)])) * 16 ≤ 140737488355328)
      (.leaf (.inl (v2.1, v2.2.1, IntKind.i64.wrap (v2.2.2.2.2.1 + 1), v2.2.2.2.2.2 ++ [(⟨v2.2.2.1, v2.2.2.2.1⟩ : Power)]))))
      (.leaf (.inl (v2.1, v2.2.1, IntKind.i64.wrap (v2.2.2.2.2.1 + 1), v2.2.2.2.2.2))))))
    (.leaf (.inr x3)))
def zlj (x0 : (List Power)) (x1 : (List Power)) (x2 : Int) (x3 : (List Power)) : Option ((List Power)) := zel (fun s : (List Power) × (List Power) × Int × (List Power) => (zf6 s.1 s.2.1 s.2.2.1 s.2.2.2).run) (x0, x1, x2, x3)
def zazk : Ann := ⟨[([0, 1, 0, 1, 1, 0, 0, 1, 1, 0, 0, 1, 0, 1, 1], zatj)], [], [], zv65, []⟩
def zazl : EndD ((List Power) × (List Power) × Int × (List Power)) := ⟨(LQ.seq (Par.q zo) (LQ.seq (Par.q zo) (LQ.skip (LQ.const (.own 0)) (LQ.seq (Par.q intP) (Par.q zo))))), ⟨[0, 1, 5, 10], [.pub 0, .nilsl 0 (.powers []), .pub 1, .nilsl 1 (.powers []), .nilown 5 83 (.powers [])]⟩, [.rows 83]⟩
def zapw : EndD ((List Power)) := ⟨(LQ.skip (LQ.const (.own 0)) (Par.q zo)), ⟨[5], [.nilown 5 83 (.powers [])]⟩, [.rows 83]⟩
def zatk : St → Option LR := L1 39 5 0 zazl (.exit 0) zapw (fun s => zf6 s.1 s.2.1 s.2.2.1 s.2.2.2)
theorem zazm : zu (zy65).env 0 (sub zc65 [0, 1, 0, 1, 1]) zatk :=
  zjd (A := zazk) zh65 Facts.mix ⟨zazj, trivial⟩ (k := zcw (sub zc65 [0, 1, 0, 1, 1])) (by kernel_rfl) rfl (by rintro ⟨x0, x1, x2, x3⟩; kernel_rfl)
def za65 : Ann := ⟨[([0, 1, 0, 1, 1], zatk)], [], [], zv65, []⟩
def zok (a0 : (List Power)) (a1 : (List Power)) : Tr ((List Power)) :=
  (.bind (zlj a0 a1 0 []) fun v3 =>
  (.leaf v3))
def zrj (a0 : (List Power)) (a1 : (List Power)) : Option ((List Power)) := (zok a0 a1).run
def zr65 : LQ ((List Power) × (List Power)) := (LQ.seq (Par.q zo) (Par.q zo))
def zxu : LQ ((List Power)) := (Par.q zo)
def z0i : SpecT := zt 0 zr65 2 [] (fun s => zok s.1 s.2) default zxu 1 []
theorem z6k : zg Tryz.prog 36 (z0i).spec :=
  zd (A := za65) zh65 Facts.mix Tryz.func36 (c := zc65) (by kernel_rfl) (Lc := 0) ⟨zazm, trivial⟩ zr65 2 5 [] (fun s => zok s.1 s.2) default zxu 1 [] [.pub 4] (by decide) (by kernel_rfl) (by rfl) (by decide) (by decide) (by rfl)
    (by rintro ⟨a0, a1⟩; kernel_rfl)
noncomputable def zc66 : Code := Tryz.f34.body.getD .skip
def zv66 : List (List Nat) := [[0], [0, 3], [3, 6, 7, 8], [3, 6, 7, 8, 9], [3, 5, 6, 7, 8], [3, 6, 7, 8], [3, 6, 7, 8], [2]]
noncomputable def zy66 : EnvT := ⟨Tryz.prog, zq []⟩
theorem zh66 : (zy66).Ok := zc trivial
def zis (x0 : Int) (x1 : (List Power)) (x2 : Int) (x3 : Int) : Tr ((Int × (List Power) × Int × Int) ⊕ (Int)) :=
  (.ite (decide (x3 < x2))
    (.guard ((0 : Int) ≤ x3 ∧ x3 < ((Sl.len (.powers x1) : Nat) : Int))
    (.leaf (.inl (IntKind.i64.wrap (x0 + ((x1.getD x3.toNat default).N)), x1, x2, IntKind.i64.wrap (x3 + 1)))))
    (.leaf (.inr x0)))
def zpe (x0 : Int) (x1 : (List Power)) (x2 : Int) (x3 : Int) : Option (Int) := zel (fun s : Int × (List Power) × Int × Int => (zis s.1 s.2.1 s.2.2.1 s.2.2.2).run) (x0, x1, x2, x3)
def zazo : Ann := ⟨[], [], [], zv66, []⟩
def zazp : EndD (Int × (List Power) × Int × Int) := ⟨(LQ.seq (Par.q intP) (LQ.seq (Par.q zo) (LQ.seq (Par.q intP) (Par.q intP)))), ⟨[3, 6, 7, 8], [.pub 6, .nilsl 6 (.powers [])]⟩, []⟩
def zapx : EndD (Int) := ⟨(Par.q intP), ⟨[3], []⟩, []⟩
def zatl : St → Option LR := L1 18 3 0 zazp (.exit 0) zapx (fun s => zis s.1 s.2.1 s.2.2.1 s.2.2.2)
theorem zazq : zu (zy66).env 0 (sub zc66 [0, 1, 0, 1, 1]) zatl :=
  zjd (A := zazo) zh66 Facts.mix trivial (k := zcw (sub zc66 [0, 1, 0, 1, 1])) (by kernel_rfl) rfl (by rintro ⟨x0, x1, x2, x3⟩; kernel_rfl)
def za66 : Ann := ⟨[([0, 1, 0, 1, 1], zatl)], [], [], zv66, []⟩
def zth (a0 : (List Power)) : Tr (Int) :=
  (.bind (zpe 0 a0 ((a0.length : Nat) : Int) 0) fun v1 =>
  (.leaf v1))
def zmv (a0 : (List Power)) : Option (Int) := (zth a0).run
def zr66 : LQ ((List Power)) := (Par.q zo)
def z2d : LQ (Int) := (Par.q intP)
def z4l : SpecT := zt 0 zr66 1 [] (fun s => zth s) default z2d 1 []
theorem zaas : zg Tryz.prog 34 (z4l).spec :=
  zd (A := za66) zh66 Facts.mix Tryz.func34 (c := zc66) (by kernel_rfl) (Lc := 0) ⟨zazq, trivial⟩ zr66 1 3 [] (fun s => zth s) default z2d 1 [] [] (by decide) (by kernel_rfl) (by rfl) (by decide) (by decide) (by rfl)
    (by rintro a0; kernel_rfl)
noncomputable def zc67 : Code := Tryz.f100.body.getD .skip
def zv67 : List (List Nat) := [[1], [1, 3], [3, 8, 9], [3, 8, 9, 10], [3, 4, 5, 8, 9], [3, 4, 5, 6, 8, 9], [3, 4, 6, 8, 9, 22], [3, 8, 9], [3, 8, 9], [3], [3], [3], [2]]
noncomputable def zy67 : EnvT := ⟨Tryz.prog, zq [(128, F_sort_SliceStable), (130, F_sort_Slice)]⟩
theorem zh67 : (zy67).Ok := zc ⟨zya, z8g, trivial⟩
def zit (x0 : (A6 zk)) (x1 : Int) (x2 : (List Power)) : Tr (((A6 zk) × Int × (List Power)) ⊕ ((List Power))) :=
  (.ite (decide (x1 < 6))
    (.guard ((0 : Int) ≤ x1 ∧ (x1 : Int) < 6)
    (.guard ((100 : Int) ≠ 0)
    (.ite ((!(A6.get ⟨x0.x0.Jailed, x0.x1.Jailed, x0.x2.Jailed, x0.x3.Jailed, x0.x4.Jailed, x0.x5.Jailed⟩ x1)) && (decide ((IntKind.i64.wrap (Int.tdiv (A6.get ⟨x0.x0.Tokens, x0.x1.Tokens, x0.x2.Tokens, x0.x3.Tokens, x0.x4.Tokens, x0.x5.Tokens⟩ x1) 100)) > 0)))
      (.guard ((Sl.len (.powers x2) + Sl.len (.powers [(⟨x1, IntKind.i64.wrap (Int.tdiv (A6.get ⟨x0.x0.Tokens, x0.x1.Tokens, x0.x2.Tokens, x0.x3.Tokens, x0.x4.Tokens, x0.x5.Tokens⟩ x1) 100)⟩ : Power)])) * 16 ≤ 140737488355328)
      (.leaf (.inl (x0, IntKind.i64.wrap (x1 + 1), x2 ++ [(⟨x1, IntKind.i64.wrap (Int.tdiv (A6.get ⟨x0.x0.Tokens, x0.x1.Tokens, x0.x2.Tokens, x0.x3.Tokens, x0.x4.Tokens, x0.x5.Tokens⟩ x1) 100)⟩ : Power)]))))
      (.leaf (.inl (x0, IntKind.i64.wrap (x1 + 1), x2))))))
    (.leaf (.inr x2)))
def zpf (x0 : (A6 zk)) (x1 : Int) (x2 : (List Power)) : Option ((List Power)) := zel (fun s : (A6 zk) × Int × (List Power) => (zit s.1 s.2.1 s.2.2).run) (x0, x1, x2)
def zazs : Ann := ⟨[], [], [], zv67, []⟩
def zazt : EndD ((A6 zk) × Int × (List Power)) := ⟨(LQ.skip (LQ.const (.ptr 0 0)) (LQ.seq (Par.q (Par.ofLP (a6L zlc))) (LQ.seq (Par.q intP) (LQ.skip (LQ.const (.own 1)) (Par.q zo))))), ⟨[3, 8, 9], [.nilcell 3 0 83 (.powers [])]⟩, [.cells 47 1, .rows 83]⟩
def zapy : EndD ((List Power)) := ⟨(LQ.skip (LQ.const (.ptr 0 0)) (LQ.skip (LQ.const (.own 1)) (Par.q zo))), ⟨[3], [.nilcell 3 0 83 (.powers [])]⟩, [.cells 47 1, .rows 83]⟩
def zatm : St → Option LR := L1 44 7 0 zazt (.exit 0) zapy (fun s => zit s.1 s.2.1 s.2.2)
theorem zazu : zu (zy67).env 0 (sub zc67 [0, 1, 0, 1, 1]) zatm :=
  zjd (A := zazs) zh67 Facts.mix trivial (k := zcw (sub zc67 [0, 1, 0, 1, 1])) (by kernel_rfl) rfl (by rintro ⟨x0, x1, x2⟩; kernel_rfl)
def za67 : Ann := ⟨[([0, 1, 0, 1, 1], zatm)], [], [], zv67, []⟩
def zti (a0 : Stake) : Tr ((List Power)) :=
  (.bind (zpf (⟨(⟨a0.Validators.Tokens.x0, a0.Validators.Shares.x0, a0.Validators.Lost.x0, a0.Validators.Jailed.x0, a0.Validators.Dead.x0⟩ : zk), (⟨a0.Validators.Tokens.x1, a0.Validators.Shares.x1, a0.Validators.Lost.x1, a0.Validators.Jailed.x1, a0.Validators.Dead.x1⟩ : zk), (⟨a0.Validators.Tokens.x2, a0.Validators.Shares.x2, a0.Validators.Lost.x2, a0.Validators.Jailed.x2, a0.Validators.Dead.x2⟩ : zk), (⟨a0.Validators.Tokens.x3, a0.Validators.Shares.x3, a0.Validators.Lost.x3, a0.Validators.Jailed.x3, a0.Validators.Dead.x3⟩ : zk), (⟨a0.Validators.Tokens.x4, a0.Validators.Shares.x4, a0.Validators.Lost.x4, a0.Validators.Jailed.x4, a0.Validators.Dead.x4⟩ : zk), (⟨a0.Validators.Tokens.x5, a0.Validators.Shares.x5, a0.Validators.Lost.x5, a0.Validators.Jailed.x5, a0.Validators.Dead.x5⟩ : zk)⟩ : (A6 zk)) 0 []) fun v1 =>
  (.bind (zox v1) fun v2 =>
  (.guard ((0 : Int) ≤ (if 4 < ((v2.length : Nat) : Int) then 4 else ((v2.length : Nat) : Int)) ∧ (if 4 < ((v2.length : Nat) : Int) then 4 else ((v2.length : Nat) : Int)) ≤ ((Sl.len (.powers v2) : Nat) : Int))
  (.bind (zze ((v2.drop 0).take ((if 4 < ((v2.length : Nat) : Int) then 4 else ((v2.length : Nat) : Int)).toNat - 0))) fun v3 =>
  (.leaf v3)))))
def zvc (a0 : Stake) : Option ((List Power)) := (zti a0).run
def zr67 : LQ (Stake) := (Par.q (Par.ofLP stakeL))
def z2e : LQ ((List Power)) := (Par.q zo)
def z4m : SpecT := zt 0 zr67 1 [] (fun s => zti s) default z2e 1 []
theorem zaat : zg Tryz.prog 100 (z4m).spec :=
  zd (A := za67) zh67 Facts.mix Tryz.func100 (c := zc67) (by kernel_rfl) (Lc := 0) ⟨zazu, trivial⟩ zr67 1 7 [] (fun s => zti s) default z2e 1 [] [.pub 2] (by decide) (by kernel_rfl) (by rfl) (by decide) (by decide) (by rfl)
    (by rintro a0; kernel_rfl)
end
end Go.Proofs.YtmakmlnfbdablaaGreat.Ab
