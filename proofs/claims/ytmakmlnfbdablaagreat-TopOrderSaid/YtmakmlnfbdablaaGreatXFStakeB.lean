/-
  The functions, each by its tree.
-/
import Derived.Test.YtmakmlnfbdablaaGreatXAbFun
import Derived.Test.YtmakmlnfbdablaaGreatXAbSort2
import Derived.Test.YtmakmlnfbdablaaGreatXAbStructs
import Derived.Test.YtmakmlnfbdablaaGreatXFBank
import Derived.Test.YtmakmlnfbdablaaGreatXFRatio
import Derived.Test.YtmakmlnfbdablaaGreatXFacts
namespace Go.Proofs.YtmakmlnfbdablaaGreat.Ab
open Go Go.RowKit
set_option maxRecDepth 100000
set_option linter.unusedVariables false
set_option linter.unusedSimpArgs false
noncomputable section
noncomputable def zc63 : Code := Tryz.f68.body.getD .skip
def zv63 : List (List Nat) := [[0, 1], [1, 7, 8, 9], [1, 7, 8, 9, 10], [1, 6, 7, 8, 9], [1, 6, 7, 8, 9, 16], [4], [1, 7, 8, 9], [4]]
noncomputable def zy63 : EnvT := ⟨Tryz.prog, zw []⟩
theorem zh63 : (zy63).Ok := ze trivial
def zhy (x0 : Int) (x1 : (List Power)) (x2 : Int) (x3 : Int) : Tr ((Int × (List Power) × Int × Int) ⊕ ((Int) ⊕ (Unit))) :=
  (.ite (decide (x3 < x2))
    (.guard ((0 : Int) ≤ x3 ∧ x3 < ((Sl.len (.powers x1) : Nat) : Int))
    (.ite (((x1.getD x3.toNat default).V) == x0)
      (.leaf (.inr (.inl ((x1.getD x3.toNat default).N))))
      (.leaf (.inl (x0, x1, x2, IntKind.i64.wrap (x3 + 1))))))
    (.leaf (.inr (.inr ()))))
def zwm (x0 : Int) (x1 : (List Power)) (x2 : Int) (x3 : Int) : Option ((Int) ⊕ (Unit)) := zd5 (fun s : Int × (List Power) × Int × Int => (zhy s.1 s.2.1 s.2.2.1 s.2.2.2).run) (x0, x1, x2, x3)
def za6i : Ann := ⟨[], [], [], zv63, []⟩
def za6j : EndD (Int × (List Power) × Int × Int) := ⟨(LQ.seq (Par.q intP) (LQ.seq (Par.q zt) (LQ.seq (Par.q intP) (Par.q intP)))), ⟨[1, 7, 8, 9], [.pub 7, .nilsl 7 (.powers [])]⟩, []⟩
def zat1 : EndD (Int) := ⟨(Par.q intP), ⟨[4], []⟩, []⟩
def zat2 : EndD (Unit) := ⟨LQ.nil, ⟨[], []⟩, []⟩
def zaxz : St → Option LR := L2 20 3 0 za6j .ret zat1 (.exit 0) zat2 (fun s => zhy s.1 s.2.1 s.2.2.1 s.2.2.2)
theorem za6k : zv (zy63).env 0 (sub zc63 [0, 1, 0, 1]) zaxz :=
  zlc (A := za6i) zh63 Facts.mix trivial (k := zb1 (sub zc63 [0, 1, 0, 1])) (by kernel_rfl) rfl rfl (by rintro ⟨x0, x1, x2, x3⟩; kernel_rfl)
def za63 : Ann := ⟨[([0, 1, 0, 1], zaxz)], [], [], zv63, []⟩
def zs0 (a0 : (List Power)) (a1 : Int) : Tr (Int) :=
  (.two (zwm a1 a0 ((a0.length : Nat) : Int) 0) (fun v1 =>
    (.leaf v1)) (fun v2 =>
    (.leaf 0)))
def zlv (a0 : (List Power)) (a1 : Int) : Option (Int) := (zs0 a0 a1).run
def zr63 : LQ ((List Power) × Int) := (LQ.seq (Par.q zt) (Par.q intP))
def z2v : LQ (Int) := (Par.q intP)
def zxw : SpecT := zx 0 zr63 2 [] (fun s => zs0 s.1 s.2) default z2v 1 []
theorem z2w : zj Tryz.prog 68 (zxw).spec :=
  zf (A := za63) zh63 Facts.mix Tryz.func68 (c := zc63) (by kernel_rfl) (Lc := 0) ⟨za6k, trivial⟩ zr63 2 3 [] (fun s => zs0 s.1 s.2) default z2v 1 [] [] (by decide) (by kernel_rfl) (by rfl) (by decide) (by decide) (by rfl)
    (by rintro ⟨a0, a1⟩; kernel_rfl)
noncomputable def zc64 : Code := Tryz.f132.body.getD .skip
def zv64 : List (List Nat) := [[0, 1], [0, 1, 5], [0, 1, 5, 8], [0, 1, 5, 8, 9], [0, 1, 5, 6, 8], [0, 1, 5, 6, 7, 8], [0, 1, 5, 6, 7, 8, 18], [0, 1, 5, 8], [0, 1, 5, 8], [4]]
noncomputable def zy64 : EnvT := ⟨Tryz.prog, zw [(68, zxw)]⟩
theorem zh64 : (zy64).Ok := ze ⟨z2w, trivial⟩
def zhz (x0 : (List Power)) (x1 : (List Power)) (x2 : Int) (x3 : (List Power)) : Tr (((List Power) × (List Power) × Int × (List Power)) ⊕ ((List Power))) :=
  (.ite (decide (x2 < 6))
    (.bind (zlv x1 x2) fun v1 =>
    (.bind (zlv x0 x2) fun v2 =>
    (.ite (v1 != v2)
      (.guard ((Sl.len (.powers x3) + Sl.len (.powers [(⟨x2, v1⟩ : Power)])) * 16 ≤ 140737488355328)
      (.leaf (.inl (x0, x1, IntKind.i64.wrap (x2 + 1), x3 ++ [(⟨x2, v1⟩ : Power)]))))
      (.leaf (.inl (x0, x1, IntKind.i64.wrap (x2 + 1), x3))))))
    (.leaf (.inr x3)))
def zo8 (x0 : (List Power)) (x1 : (List Power)) (x2 : Int) (x3 : (List Power)) : Option ((List Power)) := zd5 (fun s : (List Power) × (List Power) × Int × (List Power) => (zhz s.1 s.2.1 s.2.2.1 s.2.2.2).run) (x0, x1, x2, x3)
def za6m : Ann := ⟨[], [], [], zv64, []⟩
def za6n : EndD ((List Power) × (List Power) × Int × (List Power)) := ⟨(LQ.seq (Par.q zt) (LQ.seq (Par.q zt) (LQ.skip (LQ.const (.own 0)) (LQ.seq (Par.q intP) (Par.q zt))))), ⟨[0, 1, 5, 8], [.pub 0, .nilsl 0 (.powers []), .pub 1, .nilsl 1 (.powers []), .nilown 5 83 (.powers [])]⟩, [.rows 83]⟩
def zat3 : EndD ((List Power)) := ⟨(LQ.skip (LQ.const (.own 0)) (Par.q zt)), ⟨[5], [.nilown 5 83 (.powers [])]⟩, [.rows 83]⟩
def zax0 : St → Option LR := L1 27 5 0 za6n (.exit 0) zat3 (fun s => zhz s.1 s.2.1 s.2.2.1 s.2.2.2)
theorem za6o : zv (zy64).env 0 (sub zc64 [0, 1, 0, 1, 1]) zax0 :=
  zji (A := za6m) zh64 Facts.mix trivial (k := zb1 (sub zc64 [0, 1, 0, 1, 1])) (by kernel_rfl) rfl (by rintro ⟨x0, x1, x2, x3⟩; kernel_rfl)
def za64 : Ann := ⟨[([0, 1, 0, 1, 1], zax0)], [], [], zv64, []⟩
def zs1 (a0 : (List Power)) (a1 : (List Power)) : Tr ((List Power)) :=
  (.bind (zo8 a0 a1 0 []) fun v3 =>
  (.leaf v3))
def ze1 (a0 : (List Power)) (a1 : (List Power)) : Option ((List Power)) := (zs1 a0 a1).run
def zr64 : LQ ((List Power) × (List Power)) := (LQ.seq (Par.q zt) (Par.q zt))
def z2x : LQ ((List Power)) := (Par.q zt)
def z4y : SpecT := zx 0 zr64 2 [] (fun s => zs1 s.1 s.2) default z2x 1 []
theorem zaby : zj Tryz.prog 132 (z4y).spec :=
  zf (A := za64) zh64 Facts.mix Tryz.func132 (c := zc64) (by kernel_rfl) (Lc := 0) ⟨za6o, trivial⟩ zr64 2 5 [] (fun s => zs1 s.1 s.2) default z2x 1 [] [.pub 4] (by decide) (by kernel_rfl) (by rfl) (by decide) (by decide) (by rfl)
    (by rintro ⟨a0, a1⟩; kernel_rfl)
noncomputable def zc65 : Code := Tryz.f36.body.getD .skip
def zv65 : List (List Nat) := [[0, 1], [0, 1, 5], [0, 1, 5, 10], [0, 1, 5, 10, 11], [0, 1, 5, 6, 10], [0, 1, 5, 6, 7, 10], [0, 1, 5, 6, 7, 10, 16, 17, 18], [0, 1, 5, 6, 7, 10, 16, 17, 18, 19], [0, 1, 5, 6, 7, 9, 10, 16, 17, 18], [0, 1, 5, 6, 7, 9, 10, 16, 17, 18, 25], [0, 1, 5, 6, 7, 10, 16, 17, 18], [0, 1, 5, 6, 7, 10, 16, 17, 18], [0, 1, 5, 6, 7, 10, 30], [0, 1, 5, 10], [0, 1, 5, 10], [4]]
noncomputable def zy65 : EnvT := ⟨Tryz.prog, zw [(68, zxw)]⟩
theorem zh65 : (zy65).Ok := ze ⟨z2w, trivial⟩
def zg0 (x0 : (List Power)) (x1 : (List Power)) (x2 : Int) (x3 : Int) (x4 : Int) (x5 : (List Power)) (x6 : Int) (x7 : Int) (x8 : (List Power)) : Tr (((List Power) × (List Power) × Int × Int × Int × (List Power) × Int × Int × (List Power)) ⊕ ((List Power) × (List Power) × Int × Int × Int × (List Power))) :=
  (.ite (decide (x7 < x6))
    (.guard ((0 : Int) ≤ x7 ∧ x7 < ((Sl.len (.powers x5) : Nat) : Int))
    (.ite (((x5.getD x7.toNat default).V) == x2)
      (.leaf (.inl (x0, x1, x2, (x5.getD x7.toNat default).N, x4, x5, x6, IntKind.i64.wrap (x7 + 1), x8)))
      (.leaf (.inl (x0, x1, x2, x3, x4, x5, x6, IntKind.i64.wrap (x7 + 1), x8)))))
    (.leaf (.inr (x0, x1, x2, x3, x4, x8))))
def zm6 (x0 : (List Power)) (x1 : (List Power)) (x2 : Int) (x3 : Int) (x4 : Int) (x5 : (List Power)) (x6 : Int) (x7 : Int) (x8 : (List Power)) : Option ((List Power) × (List Power) × Int × Int × Int × (List Power)) := zd5 (fun s : (List Power) × (List Power) × Int × Int × Int × (List Power) × Int × Int × (List Power) => (zg0 s.1 s.2.1 s.2.2.1 s.2.2.2.1 s.2.2.2.2.1 s.2.2.2.2.2.1 s.2.2.2.2.2.2.1 s.2.2.2.2.2.2.2.1 s.2.2.2.2.2.2.2.2).run) (x0, x1, x2, x3, x4, x5, x6, x7, x8)
def za6s : Ann := ⟨[], [], [], zv65, []⟩
def za6t : EndD ((List Power) × (List Power) × Int × Int × Int × (List Power) × Int × Int × (List Power)) := ⟨(LQ.seq (Par.q zt) (LQ.seq (Par.q zt) (LQ.skip (LQ.const (.own 0)) (LQ.seq (Par.q intP) (LQ.seq (Par.q intP) (LQ.seq (Par.q intP) (LQ.seq (Par.q zt) (LQ.seq (Par.q intP) (LQ.seq (Par.q intP) (Par.q zt)))))))))), ⟨[0, 1, 5, 6, 7, 10, 16, 17, 18], [.pub 0, .nilsl 0 (.powers []), .pub 1, .nilsl 1 (.powers []), .nilown 5 83 (.powers []), .pub 16, .nilsl 16 (.powers [])]⟩, [.rows 83]⟩
def zat4 : EndD ((List Power) × (List Power) × Int × Int × Int × (List Power)) := ⟨(LQ.seq (Par.q zt) (LQ.seq (Par.q zt) (LQ.skip (LQ.const (.own 0)) (LQ.seq (Par.q intP) (LQ.seq (Par.q intP) (LQ.seq (Par.q intP) (Par.q zt))))))), ⟨[0, 1, 5, 6, 7, 10], [.pub 0, .nilsl 0 (.powers []), .pub 1, .nilsl 1 (.powers []), .nilown 5 83 (.powers [])]⟩, [.rows 83]⟩
def zax2 : St → Option LR := L1 39 5 0 za6t (.exit 2) zat4 (fun s => zg0 s.1 s.2.1 s.2.2.1 s.2.2.2.1 s.2.2.2.2.1 s.2.2.2.2.2.1 s.2.2.2.2.2.2.1 s.2.2.2.2.2.2.2.1 s.2.2.2.2.2.2.2.2)
theorem za6u : zv (zy65).env 0 (sub zc65 [0, 1, 0, 1, 1, 0, 0, 1, 1, 0, 0, 1, 0, 1, 1]) zax2 :=
  zji (A := za6s) zh65 Facts.mix trivial (k := zb1 (sub zc65 [0, 1, 0, 1, 1, 0, 0, 1, 1, 0, 0, 1, 0, 1, 1])) (by kernel_rfl) rfl (by rintro ⟨x0, x1, x2, x3, x4, x5, x6, x7, x8⟩; kernel_rfl)
def zg1 (x0 : (List Power)) (x1 : (List Power)) (x2 : Int) (x3 : (List Power)) : Tr (((List Power) × (List Power) × Int × (List Power)) ⊕ ((List Power))) :=
  (.ite (decide (x2 < 6))
    (.bind (zlv x0 x2) fun v1 =>
    (.bind (zm6 x0 x1 x2 v1 x2 x1 ((x1.length : Nat) : Int) 0 x3) fun v2 =>
    (.ite (decide (v2.2.2.2.1 > 0))
      (.guard ((Sl.len (.powers v2.2.2.2.2.2) + Sl.len (.powers [(⟨v2.2.2.1, v2.2.2.2.1⟩ : Power)])) * 16 ≤ 140737488355328)
      (.leaf (.inl (v2.1, v2.2.1, IntKind.i64.wrap (v2.2.2.2.2.1 + 1), v2.2.2.2.2.2 ++ [(⟨v2.2.2.1, v2.2.2.2.1⟩ : Power)]))))
      (.leaf (.inl (v2.1, v2.2.1, IntKind.i64.wrap (v2.2.2.2.2.1 + 1), v2.2.2.2.2.2))))))
    (.leaf (.inr x3)))
def zm7 (x0 : (List Power)) (x1 : (List Power)) (x2 : Int) (x3 : (List Power)) : Option ((List Power)) := zd5 (fun s : (List Power) × (List Power) × Int × (List Power) => (zg1 s.1 s.2.1 s.2.2.1 s.2.2.2).run) (x0, x1, x2, x3)
def za6v : Ann := ⟨[([0, 1, 0, 1, 1, 0, 0, 1, 1, 0, 0, 1, 0, 1, 1], zax2)], [], [], zv65, []⟩
def za6w : EndD ((List Power) × (List Power) × Int × (List Power)) := ⟨(LQ.seq (Par.q zt) (LQ.seq (Par.q zt) (LQ.skip (LQ.const (.own 0)) (LQ.seq (Par.q intP) (Par.q zt))))), ⟨[0, 1, 5, 10], [.pub 0, .nilsl 0 (.powers []), .pub 1, .nilsl 1 (.powers []), .nilown 5 83 (.powers [])]⟩, [.rows 83]⟩
def zat5 : EndD ((List Power)) := ⟨(LQ.skip (LQ.const (.own 0)) (Par.q zt)), ⟨[5], [.nilown 5 83 (.powers [])]⟩, [.rows 83]⟩
def zax3 : St → Option LR := L1 39 5 0 za6w (.exit 0) zat5 (fun s => zg1 s.1 s.2.1 s.2.2.1 s.2.2.2)
theorem za6x : zv (zy65).env 0 (sub zc65 [0, 1, 0, 1, 1]) zax3 :=
  zji (A := za6v) zh65 Facts.mix ⟨za6u, trivial⟩ (k := zb1 (sub zc65 [0, 1, 0, 1, 1])) (by kernel_rfl) rfl (by rintro ⟨x0, x1, x2, x3⟩; kernel_rfl)
def za65 : Ann := ⟨[([0, 1, 0, 1, 1], zax3)], [], [], zv65, []⟩
def zqh (a0 : (List Power)) (a1 : (List Power)) : Tr ((List Power)) :=
  (.bind (zm7 a0 a1 0 []) fun v3 =>
  (.leaf v3))
def ztq (a0 : (List Power)) (a1 : (List Power)) : Option ((List Power)) := (zqh a0 a1).run
def zr65 : LQ ((List Power) × (List Power)) := (LQ.seq (Par.q zt) (Par.q zt))
def z0f : LQ ((List Power)) := (Par.q zt)
def z2y : SpecT := zx 0 zr65 2 [] (fun s => zqh s.1 s.2) default z0f 1 []
theorem z9c : zj Tryz.prog 36 (z2y).spec :=
  zf (A := za65) zh65 Facts.mix Tryz.func36 (c := zc65) (by kernel_rfl) (Lc := 0) ⟨za6x, trivial⟩ zr65 2 5 [] (fun s => zqh s.1 s.2) default z0f 1 [] [.pub 4] (by decide) (by kernel_rfl) (by rfl) (by decide) (by decide) (by rfl)
    (by rintro ⟨a0, a1⟩; kernel_rfl)
noncomputable def zc66 : Code := Tryz.f34.body.getD .skip
def zv66 : List (List Nat) := [[0], [0, 3], [3, 6, 7, 8], [3, 6, 7, 8, 9], [3, 5, 6, 7, 8], [3, 6, 7, 8], [3, 6, 7, 8], [2]]
noncomputable def zy66 : EnvT := ⟨Tryz.prog, zw []⟩
theorem zh66 : (zy66).Ok := ze trivial
def zjv (x0 : Int) (x1 : (List Power)) (x2 : Int) (x3 : Int) : Tr ((Int × (List Power) × Int × Int) ⊕ (Int)) :=
  (.ite (decide (x3 < x2))
    (.guard ((0 : Int) ≤ x3 ∧ x3 < ((Sl.len (.powers x1) : Nat) : Int))
    (.leaf (.inl (IntKind.i64.wrap (x0 + ((x1.getD x3.toNat default).N)), x1, x2, IntKind.i64.wrap (x3 + 1)))))
    (.leaf (.inr x0)))
def zrb (x0 : Int) (x1 : (List Power)) (x2 : Int) (x3 : Int) : Option (Int) := zd5 (fun s : Int × (List Power) × Int × Int => (zjv s.1 s.2.1 s.2.2.1 s.2.2.2).run) (x0, x1, x2, x3)
def za6z : Ann := ⟨[], [], [], zv66, []⟩
def za7b : EndD (Int × (List Power) × Int × Int) := ⟨(LQ.seq (Par.q intP) (LQ.seq (Par.q zt) (LQ.seq (Par.q intP) (Par.q intP)))), ⟨[3, 6, 7, 8], [.pub 6, .nilsl 6 (.powers [])]⟩, []⟩
def zat6 : EndD (Int) := ⟨(Par.q intP), ⟨[3], []⟩, []⟩
def zax4 : St → Option LR := L1 18 3 0 za7b (.exit 0) zat6 (fun s => zjv s.1 s.2.1 s.2.2.1 s.2.2.2)
theorem za7c : zv (zy66).env 0 (sub zc66 [0, 1, 0, 1, 1]) zax4 :=
  zji (A := za6z) zh66 Facts.mix trivial (k := zb1 (sub zc66 [0, 1, 0, 1, 1])) (by kernel_rfl) rfl (by rintro ⟨x0, x1, x2, x3⟩; kernel_rfl)
def za66 : Ann := ⟨[([0, 1, 0, 1, 1], zax4)], [], [], zv66, []⟩
def zvn (a0 : (List Power)) : Tr (Int) :=
  (.bind (zrb 0 a0 ((a0.length : Nat) : Int) 0) fun v1 =>
  (.leaf v1))
def zoq (a0 : (List Power)) : Option (Int) := (zvn a0).run
def zr66 : LQ ((List Power)) := (Par.q zt)
def z4z : LQ (Int) := (Par.q intP)
def z69 : SpecT := zx 0 zr66 1 [] (fun s => zvn s) default z4z 1 []
theorem zadx : zj Tryz.prog 34 (z69).spec :=
  zf (A := za66) zh66 Facts.mix Tryz.func34 (c := zc66) (by kernel_rfl) (Lc := 0) ⟨za7c, trivial⟩ zr66 1 3 [] (fun s => zvn s) default z4z 1 [] [] (by decide) (by kernel_rfl) (by rfl) (by decide) (by decide) (by rfl)
    (by rintro a0; kernel_rfl)
noncomputable def zc67 : Code := Tryz.f100.body.getD .skip
def zv67 : List (List Nat) := [[1], [1, 3], [3, 8, 9], [3, 8, 9, 10], [3, 4, 5, 8, 9], [3, 4, 5, 6, 8, 9], [3, 4, 6, 8, 9, 22], [3, 8, 9], [3, 8, 9], [3], [3], [3], [2]]
noncomputable def zy67 : EnvT := ⟨Tryz.prog, zw [(128, F_sort_SliceStable), (130, F_sort_Slice)]⟩
theorem zh67 : (zy67).Ok := ze ⟨z0w, zabb, trivial⟩
def zjw (x0 : (A6 zo)) (x1 : Int) (x2 : (List Power)) : Tr (((A6 zo) × Int × (List Power)) ⊕ ((List Power))) :=
  (.ite (decide (x1 < 6))
    (.guard ((0 : Int) ≤ x1 ∧ (x1 : Int) < 6)
    (.guard ((100 : Int) ≠ 0)
    (.ite ((!(A6.get ⟨x0.x0.Jailed, x0.x1.Jailed, x0.x2.Jailed, x0.x3.Jailed, x0.x4.Jailed, x0.x5.Jailed⟩ x1)) && (decide ((IntKind.i64.wrap (Int.tdiv (A6.get ⟨x0.x0.Tokens, x0.x1.Tokens, x0.x2.Tokens, x0.x3.Tokens, x0.x4.Tokens, x0.x5.Tokens⟩ x1) 100)) > 0)))
      (.guard ((Sl.len (.powers x2) + Sl.len (.powers [(⟨x1, IntKind.i64.wrap (Int.tdiv (A6.get ⟨x0.x0.Tokens, x0.x1.Tokens, x0.x2.Tokens, x0.x3.Tokens, x0.x4.Tokens, x0.x5.Tokens⟩ x1) 100)⟩ : Power)])) * 16 ≤ 140737488355328)
      (.leaf (.inl (x0, IntKind.i64.wrap (x1 + 1), x2 ++ [(⟨x1, IntKind.i64.wrap (Int.tdiv (A6.get ⟨x0.x0.Tokens, x0.x1.Tokens, x0.x2.Tokens, x0.x3.Tokens, x0.x4.Tokens, x0.x5.Tokens⟩ x1) 100)⟩ : Power)]))))
      (.leaf (.inl (x0, IntKind.i64.wrap (x1 + 1), x2))))))
    (.leaf (.inr x2)))
def zrc (x0 : (A6 zo)) (x1 : Int) (x2 : (List Power)) : Option ((List Power)) := zd5 (fun s : (A6 zo) × Int × (List Power) => (zjw s.1 s.2.1 s.2.2).run) (x0, x1, x2)
def za7e : Ann := ⟨[], [], [], zv67, []⟩
def za7f : EndD ((A6 zo) × Int × (List Power)) := ⟨(LQ.skip (LQ.const (.ptr 0 0)) (LQ.seq (Par.q (Par.ofLP (a6L zm0))) (LQ.seq (Par.q intP) (LQ.skip (LQ.const (.own 1)) (Par.q zt))))), ⟨[3, 8, 9], [.nilcell 3 0 83 (.powers [])]⟩, [.cells 47 1, .rows 83]⟩
def zat7 : EndD ((List Power)) := ⟨(LQ.skip (LQ.const (.ptr 0 0)) (LQ.skip (LQ.const (.own 1)) (Par.q zt))), ⟨[3], [.nilcell 3 0 83 (.powers [])]⟩, [.cells 47 1, .rows 83]⟩
def zax5 : St → Option LR := L1 44 7 0 za7f (.exit 0) zat7 (fun s => zjw s.1 s.2.1 s.2.2)
theorem za7g : zv (zy67).env 0 (sub zc67 [0, 1, 0, 1, 1]) zax5 :=
  zji (A := za7e) zh67 Facts.mix trivial (k := zb1 (sub zc67 [0, 1, 0, 1, 1])) (by kernel_rfl) rfl (by rintro ⟨x0, x1, x2⟩; kernel_rfl)
def za67 : Ann := ⟨[([0, 1, 0, 1, 1], zax5)], [], [], zv67, []⟩
def zvo (a0 : Stake) : Tr ((List Power)) :=
  (.bind (zrc (⟨(⟨a0.Validators.Tokens.x0, a0.Validators.Shares.x0, a0.Validators.Lost.x0, a0.Validators.Jailed.x0, a0.Validators.Dead.x0⟩ : zo), (⟨a0.Validators.Tokens.x1, a0.Validators.Shares.x1, a0.Validators.Lost.x1, a0.Validators.Jailed.x1, a0.Validators.Dead.x1⟩ : zo), (⟨a0.Validators.Tokens.x2, a0.Validators.Shares.x2, a0.Validators.Lost.x2, a0.Validators.Jailed.x2, a0.Validators.Dead.x2⟩ : zo), (⟨a0.Validators.Tokens.x3, a0.Validators.Shares.x3, a0.Validators.Lost.x3, a0.Validators.Jailed.x3, a0.Validators.Dead.x3⟩ : zo), (⟨a0.Validators.Tokens.x4, a0.Validators.Shares.x4, a0.Validators.Lost.x4, a0.Validators.Jailed.x4, a0.Validators.Dead.x4⟩ : zo), (⟨a0.Validators.Tokens.x5, a0.Validators.Shares.x5, a0.Validators.Lost.x5, a0.Validators.Jailed.x5, a0.Validators.Dead.x5⟩ : zo)⟩ : (A6 zo)) 0 []) fun v1 =>
  (.bind (zqv v1) fun v2 =>
  (.guard ((0 : Int) ≤ (if 4 < ((v2.length : Nat) : Int) then 4 else ((v2.length : Nat) : Int)) ∧ (if 4 < ((v2.length : Nat) : Int) then 4 else ((v2.length : Nat) : Int)) ≤ ((Sl.len (.powers v2) : Nat) : Int))
  (.bind (z1q ((v2.drop 0).take ((if 4 < ((v2.length : Nat) : Int) then 4 else ((v2.length : Nat) : Int)).toNat - 0))) fun v3 =>
  (.leaf v3)))))
def zxx (a0 : Stake) : Option ((List Power)) := (zvo a0).run
def zr67 : LQ (Stake) := (Par.q (Par.ofLP stakeL))
def z40 : LQ ((List Power)) := (Par.q zt)
def z7a : SpecT := zx 0 zr67 1 [] (fun s => zvo s) default z40 1 []
theorem zady : zj Tryz.prog 100 (z7a).spec :=
  zf (A := za67) zh67 Facts.mix Tryz.func100 (c := zc67) (by kernel_rfl) (Lc := 0) ⟨za7g, trivial⟩ zr67 1 7 [] (fun s => zvo s) default z40 1 [] [.pub 2] (by decide) (by kernel_rfl) (by rfl) (by decide) (by decide) (by rfl)
    (by rintro a0; kernel_rfl)
end
end Go.Proofs.YtmakmlnfbdablaaGreat.Ab
