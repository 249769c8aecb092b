/-
  The functions, each by its tree.
-/
import Derived.Test.YtmakmlnfbdablaaGreatXAbFun
import Derived.Test.YtmakmlnfbdablaaGreatXAbSort2
import Derived.Test.YtmakmlnfbdablaaGreatXAbStructs
import Derived.Test.YtmakmlnfbdablaaGreatXFBank
import Derived.Test.YtmakmlnfbdablaaGreatXFRatio
import Derived.Test.YtmakmlnfbdablaaGreatXFacts
namespace Go.Proofs.YtmakmlnfbdablaaGreat.Ab
open Go Go.RowKit
set_option maxRecDepth 100000
set_option linter.unusedVariables false
set_option linter.unusedSimpArgs false
noncomputable section
noncomputable def zc63 : Code := Tryz.f68.body.getD .skip
def zv63 : List (List Nat) := [[0, 1], [1, 7, 8, 9], [1, 7, 8, 9, 10], [1, 6, 7, 8, 9], [1, 6, 7, 8, 9, 16], [4], [1, 7, 8, 9], [4]]
noncomputable def zy63 : EnvT := ⟨Tryz.prog, zr []⟩
theorem zh63 : (zy63).Ok := ze trivial
def zhl (x0 : Int) (x1 : (List Power)) (x2 : Int) (x3 : Int) : Tr ((Int × (List Power) × Int × Int) ⊕ ((Int) ⊕ (Unit))) :=
  (.ite (decide (x3 < x2))
    (.guard ((0 : Int) ≤ x3 ∧ x3 < ((Sl.len (.powers x1) : Nat) : Int))
    (.ite (((x1.getD x3.toNat default).V) == x0)
      (.leaf (.inr (.inl ((x1.getD x3.toNat default).N))))
      (.leaf (.inl (x0, x1, x2, IntKind.i64.wrap (x3 + 1))))))
    (.leaf (.inr (.inr ()))))
def zux (x0 : Int) (x1 : (List Power)) (x2 : Int) (x3 : Int) : Option ((Int) ⊕ (Unit)) := zeh (fun s : Int × (List Power) × Int × Int => (zhl s.1 s.2.1 s.2.2.1 s.2.2.2).run) (x0, x1, x2, x3)
def za2s : Ann := ⟨[], [], [], zv63, []⟩
def za2t : EndD (Int × (List Power) × Int × Int) := ⟨(LQ.seq (Par.q intP) (LQ.seq (Par.q zm) (LQ.seq (Par.q intP) (Par.q intP)))), ⟨[1, 7, 8, 9], [.pub 7, .nilsl 7 (.powers [])]⟩, []⟩
def zasd : EndD (Int) := ⟨(Par.q intP), ⟨[4], []⟩, []⟩
def zase : EndD (Unit) := ⟨LQ.nil, ⟨[], []⟩, []⟩
def zawb : St → Option LR := L2 20 3 0 za2t .ret zasd (.exit 0) zase (fun s => zhl s.1 s.2.1 s.2.2.1 s.2.2.2)
theorem za2u : zq (zy63).env 0 (sub zc63 [0, 1, 0, 1]) zawb :=
  zn2 (A := za2s) zh63 Facts.mix trivial (k := zci (sub zc63 [0, 1, 0, 1])) (by kernel_rfl) rfl rfl (by rintro ⟨x0, x1, x2, x3⟩; kernel_rfl)
def za63 : Ann := ⟨[([0, 1, 0, 1], zawb)], [], [], zv63, []⟩
def zrh (a0 : (List Power)) (a1 : Int) : Tr (Int) :=
  (.two (zux a1 a0 ((a0.length : Nat) : Int) 0) (fun v1 =>
    (.leaf v1)) (fun v2 =>
    (.leaf 0)))
def zky (a0 : (List Power)) (a1 : Int) : Option (Int) := (zrh a0 a1).run
def zr63 : LQ ((List Power) × Int) := (LQ.seq (Par.q zm) (Par.q intP))
def z1g : LQ (Int) := (Par.q intP)
def zwm : SpecT := zv 0 zr63 2 [] (fun s => zrh s.1 s.2) default z1g 1 []
theorem z1h : zi Tryz.prog 68 (zwm).spec :=
  zf (A := za63) zh63 Facts.mix Tryz.func68 (c := zc63) (by kernel_rfl) (Lc := 0) ⟨za2u, trivial⟩ zr63 2 3 [] (fun s => zrh s.1 s.2) default z1g 1 [] [] (by decide) (by kernel_rfl) (by rfl) (by decide) (by decide) (by rfl)
    (by rintro ⟨a0, a1⟩; kernel_rfl)
noncomputable def zc64 : Code := Tryz.f132.body.getD .skip
def zv64 : List (List Nat) := [[0, 1], [0, 1, 5], [0, 1, 5, 8], [0, 1, 5, 8, 9], [0, 1, 5, 6, 8], [0, 1, 5, 6, 7, 8], [0, 1, 5, 6, 7, 8, 18], [0, 1, 5, 8], [0, 1, 5, 8], [4]]
noncomputable def zy64 : EnvT := ⟨Tryz.prog, zr [(68, zwm)]⟩
theorem zh64 : (zy64).Ok := ze ⟨z1h, trivial⟩
def zhm (x0 : (List Power)) (x1 : (List Power)) (x2 : Int) (x3 : (List Power)) : Tr (((List Power) × (List Power) × Int × (List Power)) ⊕ ((List Power))) :=
  (.ite (decide (x2 < 6))
    (.bind (zky x1 x2) fun v1 =>
    (.bind (zky x0 x2) fun v2 =>
    (.ite (v1 != v2)
      (.guard ((Sl.len (.powers x3) + Sl.len (.powers [(⟨x2, v1⟩ : Power)])) * 16 ≤ 140737488355328)
      (.leaf (.inl (x0, x1, IntKind.i64.wrap (x2 + 1), x3 ++ [(⟨x2, v1⟩ : Power)]))))
      (.leaf (.inl (x0, x1, IntKind.i64.wrap (x2 + 1), x3))))))
    (.leaf (.inr x3)))
def zn6 (x0 : (List Power)) (x1 : (List Power)) (x2 : Int) (x3 : (List Power)) : Option ((List Power)) := zeh (fun s : (List Power) × (List Power) × Int × (List Power) => (zhm s.1 s.2.1 s.2.2.1 s.2.2.2).run) (x0, x1, x2, x3)
def za2w : Ann := ⟨[], [], [], zv64, []⟩
def za2x : EndD ((List Power) × (List Power) × Int × (List Power)) := ⟨(LQ.seq (Par.q zm) (LQ.seq (Par.q zm) (LQ.skip (LQ.const (.own 0)) (LQ.seq (Par.q intP) (Par.q zm))))), ⟨[0, 1, 5, 8], [.pub 0, .nilsl 0 (.powers []), .pub 1, .nilsl 1 (.powers []), .nilown 5 83 (.powers [])]⟩, [.rows 83]⟩
def zasf : EndD ((List Power)) := ⟨(LQ.skip (LQ.const (.own 0)) (Par.q zm)), ⟨[5], [.nilown 5 83 (.powers [])]⟩, [.rows 83]⟩
def zawc : St → Option LR := L1 27 5 0 za2x (.exit 0) zasf (fun s => zhm s.1 s.2.1 s.2.2.1 s.2.2.2)
theorem za2y : zq (zy64).env 0 (sub zc64 [0, 1, 0, 1, 1]) zawc :=
  ziy (A := za2w) zh64 Facts.mix trivial (k := zci (sub zc64 [0, 1, 0, 1, 1])) (by kernel_rfl) rfl (by rintro ⟨x0, x1, x2, x3⟩; kernel_rfl)
def za64 : Ann := ⟨[([0, 1, 0, 1, 1], zawc)], [], [], zv64, []⟩
def zri (a0 : (List Power)) (a1 : (List Power)) : Tr ((List Power)) :=
  (.bind (zn6 a0 a1 0 []) fun v3 =>
  (.leaf v3))
def zev (a0 : (List Power)) (a1 : (List Power)) : Option ((List Power)) := (zri a0 a1).run
def zr64 : LQ ((List Power) × (List Power)) := (LQ.seq (Par.q zm) (Par.q zm))
def z1i : LQ ((List Power)) := (Par.q zm)
def z3d : SpecT := zv 0 zr64 2 [] (fun s => zri s.1 s.2) default z1i 1 []
theorem zaae : zi Tryz.prog 132 (z3d).spec :=
  zf (A := za64) zh64 Facts.mix Tryz.func132 (c := zc64) (by kernel_rfl) (Lc := 0) ⟨za2y, trivial⟩ zr64 2 5 [] (fun s => zri s.1 s.2) default z1i 1 [] [.pub 4] (by decide) (by kernel_rfl) (by rfl) (by decide) (by decide) (by rfl)
    (by rintro ⟨a0, a1⟩; kernel_rfl)
noncomputable def zc65 : Code := Tryz.f36.body.getD .skip
def zv65 : List (List Nat) := [[0, 1], [0, 1, 5], [0, 1, 5, 10], [0, 1, 5, 10, 11], [0, 1, 5, 6, 10], [0, 1, 5, 6, 7, 10], [0, 1, 5, 6, 7, 10, 16, 17, 18], [0, 1, 5, 6, 7, 10, 16, 17, 18, 19], [0, 1, 5, 6, 7, 9, 10, 16, 17, 18], [0, 1, 5, 6, 7, 9, 10, 16, 17, 18, 25], [0, 1, 5, 6, 7, 10, 16, 17, 18], [0, 1, 5, 6, 7, 10, 16, 17, 18], [0, 1, 5, 6, 7, 10, 30], [0, 1, 5, 10], [0, 1, 5, 10], [4]]
noncomputable def zy65 : EnvT := ⟨Tryz.prog, zr [(68, zwm)]⟩
theorem zh65 : (zy65).Ok := ze ⟨z1h, trivial⟩
def zgn (x0 : (List Power)) (x1 : (List Power)) (x2 : Int) (x3 : Int) (x4 : Int) (x5 : (List Power)) (x6 : Int) (x7 : Int) (x8 : (List Power)) : Tr (((List Power) × (List Power) × Int × Int × Int × (List Power) × Int × Int × (List Power)) ⊕ ((List Power) × (List Power) × Int × Int × Int × (List Power))) :=
  (.ite (decide (x7 < x6))
    (.guard ((0 : Int) ≤ x7 ∧ x7 < ((Sl.len (.powers x5) : Nat) : Int))
    (.ite (((x5.getD x7.toNat default).V) == x2)
      (.leaf (.inl (x0, x1, x2, (x5.getD x7.toNat default).N, x4, x5, x6, IntKind.i64.wrap (x7 + 1), x8)))
      (.leaf (.inl (x0, x1, x2, x3, x4, x5, x6, IntKind.i64.wrap (x7 + 1), x8)))))
    (.leaf (.inr (x0, x1, x2, x3, x4, x8))))
def zl6 (x0 : (List Power)) (x1 : (List Power)) (x2 : Int) (x3 : Int) (x4 : Int) (x5 : (List Power)) (x6 : Int) (x7 : Int) (x8 : (List Power)) : Option ((List Power) × (List Power) × Int × Int × Int × (List Power)) := zeh (fun s : (List Power) × (List Power) × Int × Int × Int × (List Power) × Int × Int × (List Power) => (zgn s.1 s.2.1 s.2.2.1 s.2.2.2.1 s.2.2.2.2.1 s.2.2.2.2.2.1 s.2.2.2.2.2.2.1 s.2.2.2.2.2.2.2.1 s.2.2.2.2.2.2.2.2).run) (x0, x1, x2, x3, x4, x5, x6, x7, x8)
def za3b : Ann := ⟨[], [], [], zv65, []⟩
def za3c : EndD ((List Power) × (List Power) × Int × Int × Int × (List Power) × Int × Int × (List Power)) := ⟨(LQ.seq (Par.q zm) (LQ.seq (Par.q zm) (LQ.skip (LQ.const (.own 0)) (LQ.seq (Par.q intP) (LQ.seq (Par.q intP) (LQ.seq (Par.q intP) (LQ.seq (Par.q zm) (LQ.seq (Par.q intP) (LQ.seq (Par.q intP) (Par.q zm)))))))))), ⟨[0, 1, 5, 6, 7, 10, 16, 17, 18], [.pub 0, .nilsl 0 (.powers []), .pub 1, .nilsl 1 (.powers []), .nilown 5 83 (.powers []), .pub 16, .nilsl 16 (.powers [])]⟩, [.rows 83]⟩
def zasg : EndD ((List Power) × (List Power) × Int × Int × Int × (List Power)) := ⟨(LQ.seq (Par.q zm) (LQ.seq (Par.q zm) (LQ.skip (LQ.const (.own 0)) (LQ.seq (Par.q intP) (LQ.seq (Par.q intP) (LQ.seq (Par.q intP) (Par.q zm))))))), ⟨[0, 1, 5, 6, 7, 10], [.pub 0, .nilsl 0 (.powers []), .pub 1, .nilsl 1 (.powers []), .nilown 5 83 (.powers [])]⟩, [.rows 83]⟩
def zawe : St → Option LR := L1 39 5 0 za3c (.exit 2) zasg (fun s => zgn s.1 s.2.1 s.2.2.1 s.2.2.2.1 s.2.2.2.2.1 s.2.2.2.2.2.1 s.2.2.2.2.2.2.1 s.2.2.2.2.2.2.2.1 s.2.2.2.2.2.2.2.2)
theorem za3d : zq (zy65).env 0 (sub zc65 [0, 1, 0, 1, 1, 0, 0, 1, 1, 0, 0, 1, 0, 1, 1]) zawe :=
  ziy (A := za3b) zh65 Facts.mix trivial (k := zci (sub zc65 [0, 1, 0, 1, 1, 0, 0, 1, 1, 0, 0, 1, 0, 1, 1])) (by kernel_rfl) rfl (by rintro ⟨x0, x1, x2, x3, x4, x5, x6, x7, x8⟩; kernel_rfl)
def zgo (x0 : (List Power)) (x1 : (List Power)) (x2 : Int) (x3 : (List Power)) : Tr (((List Power) × (List Power) × Int × (List Power)) ⊕ ((List Power))) :=
  (.ite (decide (x2 < 6))
    (.bind (zky x0 x2) fun v1 =>
    (.bind (zl6 x0 x1 x2 v1 x2 x1 ((x1.length : Nat) : Int) 0 x3) fun v2 =>
    (.ite (decide (v2.2.2.2.1 > 0))
      (.guard ((Sl.len (.powers v2.2.2.2.2.2) + Sl.len (.powers [(⟨v2.2.2.1, v2.2.2.2.1⟩ : Power)])) * 16 ≤ 140737488355328)
      (.leaf (.inl (v2.1, v2.2.1, IntKind.i64.wrap (v2.2.2.2.2.1 + 1), v2.2.2.2.2.2 ++ [(⟨v2.2.2.1, v2.2.2.2.1⟩ : Power)]))))
      (.leaf (.inl (v2.1, v2.2.1, IntKind.i64.wrap (v2.2.2.2.2.1 + 1), v2.2.2.2.2.2))))))
    (.leaf (.inr x3)))
def zl7 (x0 : (List Power)) (x1 : (List Power)) (x2 : Int) (x3 : (List Power)) : Option ((List Power)) := zeh (fun s : (List Power) × (List Power) × Int × (List Power) => (zgo s.1 s.2.1 s.2.2.1 s.2.2.2).run) (x0, x1, x2, x3)
def za3e : Ann := ⟨[([0, 1, 0, 1, 1, 0, 0, 1, 1, 0, 0, 1, 0, 1, 1], zawe)], [], [], zv65, []⟩
def za3f : EndD ((List Power) × (List Power) × Int × (List Power)) := ⟨(LQ.seq (Par.q zm) (LQ.seq (Par.q zm) (LQ.skip (LQ.const (.own 0)) (LQ.seq (Par.q intP) (Par.q zm))))), ⟨[0, 1, 5, 10], [.pub 0, .nilsl 0 (.powers []), .pub 1, .nilsl 1 (.powers []), .nilown 5 83 (.powers [])]⟩, [.rows 83]⟩
def zash : EndD ((List Power)) := ⟨(LQ.skip (LQ.const (.own 0)) (Par.q zm)), ⟨[5], [.nilown 5 83 (.powers [])]⟩, [.rows 83]⟩
def zawf : St → Option LR := L1 39 5 0 za3f (.exit 0) zash (fun s => zgo s.1 s.2.1 s.2.2.1 s.2.2.2)
theorem za3g : zq (zy65).env 0 (sub zc65 [0, 1, 0, 1, 1]) zawf :=
  ziy (A := za3e) zh65 Facts.mix ⟨za3d, trivial⟩ (k := zci (sub zc65 [0, 1, 0, 1, 1])) (by kernel_rfl) rfl (by rintro ⟨x0, x1, x2, x3⟩; kernel_rfl)
def za65 : Ann := ⟨[([0, 1, 0, 1, 1], zawf)], [], [], zv65, []⟩
def zpd (a0 : (List Power)) (a1 : (List Power)) : Tr ((List Power)) :=
  (.bind (zl7 a0 a1 0 []) fun v3 =>
  (.leaf v3))
def zfa (a0 : (List Power)) (a1 : (List Power)) : Option ((List Power)) := (zpd a0 a1).run
def zr65 : LQ ((List Power) × (List Power)) := (LQ.seq (Par.q zm) (Par.q zm))
def zyy : LQ ((List Power)) := (Par.q zm)
def zt9 : SpecT := zv 0 zr65 2 [] (fun s => zpd s.1 s.2) default zyy 1 []
theorem zyz : zi Tryz.prog 36 (zt9).spec :=
  zf (A := za65) zh65 Facts.mix Tryz.func36 (c := zc65) (by kernel_rfl) (Lc := 0) ⟨za3g, trivial⟩ zr65 2 5 [] (fun s => zpd s.1 s.2) default zyy 1 [] [.pub 4] (by decide) (by kernel_rfl) (by rfl) (by decide) (by decide) (by rfl)
    (by rintro ⟨a0, a1⟩; kernel_rfl)
noncomputable def zc66 : Code := Tryz.f34.body.getD .skip
def zv66 : List (List Nat) := [[0], [0, 3], [3, 6, 7, 8], [3, 6, 7, 8, 9], [3, 5, 6, 7, 8], [3, 6, 7, 8], [3, 6, 7, 8], [2]]
noncomputable def zy66 : EnvT := ⟨Tryz.prog, zr []⟩
theorem zh66 : (zy66).Ok := ze trivial
def zja (x0 : Int) (x1 : (List Power)) (x2 : Int) (x3 : Int) : Tr ((Int × (List Power) × Int × Int) ⊕ (Int)) :=
  (.ite (decide (x3 < x2))
    (.guard ((0 : Int) ≤ x3 ∧ x3 < ((Sl.len (.powers x1) : Nat) : Int))
    (.leaf (.inl (IntKind.i64.wrap (x0 + ((x1.getD x3.toNat default).N)), x1, x2, IntKind.i64.wrap (x3 + 1)))))
    (.leaf (.inr x0)))
def zp6 (x0 : Int) (x1 : (List Power)) (x2 : Int) (x3 : Int) : Option (Int) := zeh (fun s : Int × (List Power) × Int × Int => (zja s.1 s.2.1 s.2.2.1 s.2.2.2).run) (x0, x1, x2, x3)
def za3i : Ann := ⟨[], [], [], zv66, []⟩
def za3j : EndD (Int × (List Power) × Int × Int) := ⟨(LQ.seq (Par.q intP) (LQ.seq (Par.q zm) (LQ.seq (Par.q intP) (Par.q intP)))), ⟨[3, 6, 7, 8], [.pub 6, .nilsl 6 (.powers [])]⟩, []⟩
def zasi : EndD (Int) := ⟨(Par.q intP), ⟨[3], []⟩, []⟩
def zawg : St → Option LR := L1 18 3 0 za3j (.exit 0) zasi (fun s => zja s.1 s.2.1 s.2.2.1 s.2.2.2)
theorem za3k : zq (zy66).env 0 (sub zc66 [0, 1, 0, 1, 1]) zawg :=
  ziy (A := za3i) zh66 Facts.mix trivial (k := zci (sub zc66 [0, 1, 0, 1, 1])) (by kernel_rfl) rfl (by rintro ⟨x0, x1, x2, x3⟩; kernel_rfl)
def za66 : Ann := ⟨[([0, 1, 0, 1, 1], zawg)], [], [], zv66, []⟩
def zua (a0 : (List Power)) : Tr (Int) :=
  (.bind (zp6 0 a0 ((a0.length : Nat) : Int) 0) fun v1 =>
  (.leaf v1))
def znk (a0 : (List Power)) : Option (Int) := (zua a0).run
def zr66 : LQ ((List Power)) := (Par.q zm)
def z3e : LQ (Int) := (Par.q intP)
def z5v : SpecT := zv 0 zr66 1 [] (fun s => zua s) default z3e 1 []
theorem zacd : zi Tryz.prog 34 (z5v).spec :=
  zf (A := za66) zh66 Facts.mix Tryz.func34 (c := zc66) (by kernel_rfl) (Lc := 0) ⟨za3k, trivial⟩ zr66 1 3 [] (fun s => zua s) default z3e 1 [] [] (by decide) (by kernel_rfl) (by rfl) (by decide) (by decide) (by rfl)
    (by rintro a0; kernel_rfl)
noncomputable def zc67 : Code := Tryz.f100.body.getD .skip
def zv67 : List (List Nat) := [[1], [1, 3], [3, 8, 9], [3, 8, 9, 10], [3, 4, 5, 8, 9], [3, 4, 5, 6, 8, 9], [3, 4, 6, 8, 9, 22], [3, 8, 9], [3, 8, 9], [3], [3], [3], [2]]
noncomputable def zy67 : EnvT := ⟨Tryz.prog, zr [(128, F_sort_SliceStable), (130, F_sort_Slice)]⟩
theorem zh67 : (zy67).Ok := ze ⟨zzm, z9r, trivial⟩
def zjb (x0 : (A6 zd)) (x1 : Int) (x2 : (List Power)) : Tr (((A6 zd) × Int × (List Power)) ⊕ ((List Power))) :=
  (.ite (decide (x1 < 6))
    (.guard ((0 : Int) ≤ x1 ∧ (x1 : Int) < 6)
    (.guard ((100 : Int) ≠ 0)
    (.ite ((!(A6.get ⟨x0.x0.Jailed, x0.x1.Jailed, x0.x2.Jailed, x0.x3.Jailed, x0.x4.Jailed, x0.x5.Jailed⟩ x1)) && (decide ((IntKind.i64.wrap (Int.tdiv (A6.get ⟨x0.x0.Tokens, x0.x1.Tokens, x0.x2.Tokens, x0.x3.Tokens, x0.x4.Tokens, x0.x5.Tokens⟩ x1) 100)) > 0)))
      (.guard ((Sl.len (.powers x2) + Sl.len (.powers [(⟨x1, IntKind.i64.wrap (Int.tdiv (A6.get ⟨x0.x0.Tokens, x0.x1.Tokens, x0.x2.Tokens, x0.x3.Tokens, x0.x4.Tokens, x0.x5.Tokens⟩ x1) 100)⟩ : Power)])) * 16 ≤ 140737488355328)
      (.leaf (.inl (x0, IntKind.i64.wrap (x1 + 1), x2 ++ [(⟨x1, IntKind.i64.wrap (Int.tdiv (A6.get ⟨x0.x0.Tokens, x0.x1.Tokens, x0.x2.Tokens, x0.x3.Tokens, x0.x4.Tokens, x0.x5.Tokens⟩ x1) 100)⟩ : Power)]))))
      (.leaf (.inl (x0, IntKind.i64.wrap (x1 + 1), x2))))))
    (.leaf (.inr x2)))
def zp7 (x0 : (A6 zd)) (x1 : Int) (x2 : (List Power)) : Option ((List Power)) := zeh (fun s : (A6 zd) × Int × (List Power) => (zjb s.1 s.2.1 s.2.2).run) (x0, x1, x2)
def za3m : Ann := ⟨[], [], [], zv67, []⟩
def za3n : EndD ((A6 zd) × Int × (List Power)) := ⟨(LQ.skip (LQ.const (.ptr 0 0)) (LQ.seq (Par.q (Par.ofLP (a6L zaf))) (LQ.seq (Par.q intP) (LQ.skip (LQ.const (.own 1)) (Par.q zm))))), ⟨[3, 8, 9], [.nilcell 3 0 83 (.powers [])]⟩, [.cells 47 1, .rows 83]⟩
def zasj : EndD ((List Power)) := ⟨(LQ.skip (LQ.const (.ptr 0 0)) (LQ.skip (LQ.const (.own 1)) (Par.q zm))), ⟨[3], [.nilcell 3 0 83 (.powers [])]⟩, [.cells 47 1, .rows 83]⟩
def zawh : St → Option LR := L1 44 7 0 za3n (.exit 0) zasj (fun s => zjb s.1 s.2.1 s.2.2)
theorem za3o : zq (zy67).env 0 (sub zc67 [0, 1, 0, 1, 1]) zawh :=
  ziy (A := za3m) zh67 Facts.mix trivial (k := zci (sub zc67 [0, 1, 0, 1, 1])) (by kernel_rfl) rfl (by rintro ⟨x0, x1, x2⟩; kernel_rfl)
def za67 : Ann := ⟨[([0, 1, 0, 1, 1], zawh)], [], [], zv67, []⟩
def zub (a0 : Stake) : Tr ((List Power)) :=
  (.bind (zp7 (⟨(⟨a0.Validators.Tokens.x0, a0.Validators.Shares.x0, a0.Validators.Lost.x0, a0.Validators.Jailed.x0, a0.Validators.Dead.x0⟩ : zd), (⟨a0.Validators.Tokens.x1, a0.Validators.Shares.x1, a0.Validators.Lost.x1, a0.Validators.Jailed.x1, a0.Validators.Dead.x1⟩ : zd), (⟨a0.Validators.Tokens.x2, a0.Validators.Shares.x2, a0.Validators.Lost.x2, a0.Validators.Jailed.x2, a0.Validators.Dead.x2⟩ : zd), (⟨a0.Validators.Tokens.x3, a0.Validators.Shares.x3, a0.Validators.Lost.x3, a0.Validators.Jailed.x3, a0.Validators.Dead.x3⟩ : zd), (⟨a0.Validators.Tokens.x4, a0.Validators.Shares.x4, a0.Validators.Lost.x4, a0.Validators.Jailed.x4, a0.Validators.Dead.x4⟩ : zd), (⟨a0.Validators.Tokens.x5, a0.Validators.Shares.x5, a0.Validators.Lost.x5, a0.Validators.Jailed.x5, a0.Validators.Dead.x5⟩ : zd)⟩ : (A6 zd)) 0 []) fun v1 =>
  (.bind (zpp v1) fun v2 =>
  (.guard ((0 : Int) ≤ (if 4 < ((v2.length : Nat) : Int) then 4 else ((v2.length : Nat) : Int)) ∧ (if 4 < ((v2.length : Nat) : Int) then 4 else ((v2.length : Nat) : Int)) ≤ ((Sl.len (.powers v2) : Nat) : Int))
  (.bind (z0f ((v2.drop 0).take ((if 4 < ((v2.length : Nat) : Int) then 4 else ((v2.length : Nat) : Int)).toNat - 0))) fun v3 =>
  (.leaf v3)))))
def zwn (a0 : Stake) : Option ((List Power)) := (zub a0).run
def zr67 : LQ (Stake) := (Par.q (Par.ofLP stakeL))
def z3f : LQ ((List Power)) := (Par.q zm)
def z5w : SpecT := zv 0 zr67 1 [] (fun s => zub s) default z3f 1 []
theorem zace : zi Tryz.prog 100 (z5w).spec :=
  zf (A := za67) zh67 Facts.mix Tryz.func100 (c := zc67) (by kernel_rfl) (Lc := 0) ⟨za3o, trivial⟩ zr67 1 7 [] (fun s => zub s) default z3f 1 [] [.pub 2] (by decide) (by kernel_rfl) (by rfl) (by decide) (by decide) (by rfl)
    (by rintro a0; kernel_rfl)
end
end Go.Proofs.YtmakmlnfbdablaaGreat.Ab
