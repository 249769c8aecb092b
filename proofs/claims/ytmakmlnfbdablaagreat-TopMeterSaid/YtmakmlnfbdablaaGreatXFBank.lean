/-
  The functions, each by its tree.
-/
import Derived.Test.YtmakmlnfbdablaaGreatXAbFun
import Derived.Test.YtmakmlnfbdablaaGreatXAbStructs
import Derived.Test.YtmakmlnfbdablaaGreatXFRatio
import Derived.Test.YtmakmlnfbdablaaGreatXFacts
namespace Go.Proofs.YtmakmlnfbdablaaGreat.Ab
open Go Go.RowKit
set_option maxRecDepth 100000
set_option linter.unusedVariables false
set_option linter.unusedSimpArgs false
noncomputable section
noncomputable def zc7 : Code := Tryz.f89.body.getD .skip
def zv7 : List (List Nat) := [[0], [0, 1], [0, 1, 3], [0, 1, 3, 4], [0, 1, 2, 3], [0, 1, 3], [0, 1, 3], [0]]
noncomputable def zy7 : EnvT := ⟨Tryz.prog, zt []⟩
theorem zh7 : (zy7).Ok := zd trivial
def zf1 (x0 : Int) (x1 : Bank) (x2 : Bank) : Tr ((Int × Bank × Bank) ⊕ (Bank × Bank)) :=
  (.ite (decide (x0 < 4))
    (.guard ((0 : Int) ≤ x0 ∧ (x0 : Int) < 4)
    (.leaf (.inl (IntKind.i64.wrap (x0 + 1), x1, { (x2 : Bank) with Free := (x2.Free.set x0 100000) }))))
    (.leaf (.inr (x1, x2))))
def zq9 (x0 : Int) (x1 : Bank) (x2 : Bank) : Option (Bank × Bank) := ze1 (fun s : Int × Bank × Bank => (zf1 s.1 s.2.1 s.2.2).run) (x0, x1, x2)
def za7a : Ann := ⟨[], [], [], zv7, []⟩
def zq7a : EndD (Int × Bank × Bank) := ⟨(LQ.skip (LQ.const (.ptr 0 0)) (LQ.skip (LQ.const (.ptr 1 0)) (LQ.seq (Par.q intP) (LQ.seq (LP.q bankL) (LP.q bankL))))), ⟨[0, 1, 3], []⟩, [.cells 38 7, .cells 38 7]⟩
def zas7 : EndD (Bank × Bank) := ⟨(LQ.skip (LQ.const (.ptr 0 0)) (LQ.skip (LQ.const (.ptr 1 0)) (LQ.seq (LP.q bankL) (LP.q bankL)))), ⟨[0, 1], []⟩, [.cells 38 7, .cells 38 7]⟩
def zl7a : St → Option LR := L1 11 4 0 zq7a (.exit 0) zas7 (fun s => zf1 s.1 s.2.1 s.2.2)
theorem zk7a : zv (zy7).env 0 (sub zc7 [0, 1, 0, 1, 1]) zl7a :=
  zii (A := za7a) zh7 Facts.mix trivial (k := zdk (sub zc7 [0, 1, 0, 1, 1])) (by kernel_rfl) rfl (by rintro ⟨x0, x1, x2⟩; kernel_rfl)
def za7 : Ann := ⟨[([0, 1, 0, 1, 1], zl7a)], [], [], zv7, []⟩
def zwo  : Tr (Bank) :=
  (.bind (zq9 0 (⟨(⟨0, 0, 0, 0⟩ : (A4 Int)), 0, 0, 0⟩ : Bank) (⟨(⟨0, 0, 0, 0⟩ : (A4 Int)), 0, 0, 0⟩ : Bank)) fun v1 =>
  (.leaf v1.2))
def zyr  : Option (Bank) := (zwo ).run
def zr7 : LQ (Unit) := LQ.nil
def z4g : LQ (Bank) := (Par.q (Par.ofLP bankL))
def z7b : SpecT := zu 0 zr7 0 [] (fun s => zwo ) default z4g 1 []
theorem zac7 : zh Tryz.prog 89 (z7b).spec :=
  ze (A := za7) zh7 Facts.mix Tryz.func89 (c := zc7) (by kernel_rfl) (Lc := 0) ⟨zk7a, trivial⟩ zr7 0 4 [] (fun s => zwo ) default z4g 1 [] [] (by decide) (by kernel_rfl) (by rfl) (by decide) (by decide) (by rfl)
    (by rintro _; kernel_rfl)
noncomputable def zc8 : Code := Tryz.f20.body.getD .skip
def zv8 : List (List Nat) := [[1], [1, 3], [3, 15, 16], [3, 15, 16, 17], [3, 5, 15, 16], [3, 15, 16], [3, 15, 16], [2]]
noncomputable def zy8 : EnvT := ⟨Tryz.prog, zt []⟩
theorem zh8 : (zy8).Ok := zd trivial
def zf2 (x0 : Int) (x1 : (A4 Int)) (x2 : Int) : Tr ((Int × (A4 Int) × Int) ⊕ (Int)) :=
  (.ite (decide (x2 < 4))
    (.guard ((0 : Int) ≤ x2 ∧ (x2 : Int) < 4)
    (.leaf (.inl (IntKind.i64.wrap (x0 + (x1.get x2)), x1, IntKind.i64.wrap (x2 + 1)))))
    (.leaf (.inr x0)))
def zra (x0 : Int) (x1 : (A4 Int)) (x2 : Int) : Option (Int) := ze1 (fun s : Int × (A4 Int) × Int => (zf2 s.1 s.2.1 s.2.2).run) (x0, x1, x2)
def za8a : Ann := ⟨[], [], [], zv8, []⟩
def zq8a : EndD (Int × (A4 Int) × Int) := ⟨(LQ.seq (Par.q intP) (LQ.seq (Par.q (Par.ofLP (a4L (LP.one intP)))) (Par.q intP))), ⟨[3, 15, 16], []⟩, []⟩
def zas8 : EndD (Int) := ⟨(Par.q intP), ⟨[3], []⟩, []⟩
def zl8a : St → Option LR := L1 24 3 0 zq8a (.exit 0) zas8 (fun s => zf2 s.1 s.2.1 s.2.2)
theorem zk8a : zv (zy8).env 0 (sub zc8 [0, 1, 0, 1, 1]) zl8a :=
  zii (A := za8a) zh8 Facts.mix trivial (k := zdk (sub zc8 [0, 1, 0, 1, 1])) (by kernel_rfl) rfl (by rintro ⟨x0, x1, x2⟩; kernel_rfl)
def za8 : Ann := ⟨[([0, 1, 0, 1, 1], zl8a)], [], [], zv8, []⟩
def zwp (a0 : Bank) : Tr (Int) :=
  (.bind (zra (IntKind.i64.wrap ((IntKind.i64.wrap (a0.Bonded + a0.Waiting)) + a0.Burnt)) a0.Free 0) fun v1 =>
  (.leaf v1))
def zys (a0 : Bank) : Option (Int) := (zwp a0).run
def zr8 : LQ (Bank) := (Par.q (Par.ofLP bankL))
def z4h : LQ (Int) := (Par.q intP)
def z7c : SpecT := zu 0 zr8 1 [] (fun s => zwp s) default z4h 1 []
theorem zac8 : zh Tryz.prog 20 (z7c).spec :=
  ze (A := za8) zh8 Facts.mix Tryz.func20 (c := zc8) (by kernel_rfl) (Lc := 0) ⟨zk8a, trivial⟩ zr8 1 3 [] (fun s => zwp s) default z4h 1 [] [] (by decide) (by kernel_rfl) (by rfl) (by decide) (by decide) (by rfl)
    (by rintro a0; kernel_rfl)
noncomputable def zc9 : Code := Tryz.f50.body.getD .skip
def zv9 : List (List Nat) := [[1], [1, 14, 15, 16], [1, 14, 15, 16, 17], [1, 4, 14, 15, 16], [1, 14, 15, 16, 25], [2], [1, 14, 15, 16], [2]]
noncomputable def zy9 : EnvT := ⟨Tryz.prog, zt [(20, z7c)]⟩
theorem zh9 : (zy9).Ok := zd ⟨zac8, trivial⟩
def zij (x0 : Int) (x1 : Int) (x2 : Bank) (x3 : (List Int)) : Tr ((Int × Int × Bank × (List Int)) ⊕ ((Bool) ⊕ (Bank))) :=
  (.ite (decide (x1 < x0))
    (.guard ((0 : Int) ≤ x1 ∧ x1 < ((Sl.len (.ints x3) : Nat) : Int))
    (.ite ((decide ((x3.getD x1.toNat 0) < 0)) || (decide ((x3.getD x1.toNat 0) > 400000)))
      (.leaf (.inr (.inl false)))
      (.leaf (.inl (x0, IntKind.i64.wrap (x1 + 1), x2, x3)))))
    (.leaf (.inr (.inr x2))))
def zuy (x0 : Int) (x1 : Int) (x2 : Bank) (x3 : (List Int)) : Option ((Bool) ⊕ (Bank)) := ze1 (fun s : Int × Int × Bank × (List Int) => (zij s.1 s.2.1 s.2.2.1 s.2.2.2).run) (x0, x1, x2, x3)
def za9a : Ann := ⟨[], [], [], zv9, []⟩
def zq9a : EndD (Int × Int × Bank × (List Int)) := ⟨(LQ.skip (LQ.const (.ptr 0 0)) (LQ.skip (LQ.const (.own 1)) (LQ.seq (Par.q intP) (LQ.seq (Par.q intP) (LQ.seq (LP.q bankL) (Par.q zg1)))))), ⟨[1, 14, 15, 16], [.nilown 14 3 (.ints [])]⟩, [.cells 38 7, .rows 3]⟩
def zas9 : EndD (Bool) := ⟨(Par.q boolP), ⟨[2], []⟩, []⟩
def zata : EndD (Bank) := ⟨(LQ.skip (LQ.const (.ptr 0 0)) (LP.q bankL)), ⟨[1], []⟩, [.cells 38 7]⟩
def zl9a : St → Option LR := L2 30 5 0 zq9a .ret zas9 (.exit 0) zata (fun s => zij s.1 s.2.1 s.2.2.1 s.2.2.2)
theorem zk9a : zv (zy9).env 0 (sub zc9 [0, 1, 0, 1]) zl9a :=
  zs3 (A := za9a) zh9 Facts.mix trivial (k := zdk (sub zc9 [0, 1, 0, 1])) (by kernel_rfl) rfl rfl (by rintro ⟨x0, x1, x2, x3⟩; kernel_rfl)
def za9 : Ann := ⟨[([0, 1, 0, 1], zl9a)], [], [], zv9, []⟩
def zs4 (a0 : Bank) : Tr (Bool) :=
  (.guard ((Sl.len (.ints [a0.Free.x0, a0.Free.x1, a0.Free.x2, a0.Free.x3]) + Sl.len (.ints [a0.Bonded, a0.Waiting, a0.Burnt])) * 8 ≤ 140737488355328)
  (.guard (0 < Sl.len (.ints [a0.Bonded, a0.Waiting, a0.Burnt]))
  (.two (zuy ((([a0.Free.x0, a0.Free.x1, a0.Free.x2, a0.Free.x3] ++ [a0.Bonded, a0.Waiting, a0.Burnt]).length : Nat) : Int) 0 a0 ([a0.Free.x0, a0.Free.x1, a0.Free.x2, a0.Free.x3] ++ [a0.Bonded, a0.Waiting, a0.Burnt])) (fun v1 =>
    (.leaf v1)) (fun v2 =>
    (.bind (zys v2) fun v3 =>
    (.leaf (v3 == 400000)))))))
def zft (a0 : Bank) : Option (Bool) := (zs4 a0).run
def zr9 : LQ (Bank) := (Par.q (Par.ofLP bankL))
def z16 : LQ (Bool) := (Par.q boolP)
def zjh : SpecT := zu 0 zr9 1 [] (fun s => zs4 s) default z16 1 []
theorem zju : zh Tryz.prog 50 (zjh).spec :=
  ze (A := za9) zh9 Facts.mix Tryz.func50 (c := zc9) (by kernel_rfl) (Lc := 0) ⟨zk9a, trivial⟩ zr9 1 5 [] (fun s => zs4 s) default z16 1 [] [] (by decide) (by kernel_rfl) (by rfl) (by decide) (by decide) (by rfl)
    (by rintro a0; kernel_rfl)
noncomputable def zc10 : Code := Tryz.f115.body.getD .skip
def zv10 : List (List Nat) := [[0], [2]]
noncomputable def zy10 : EnvT := ⟨Tryz.prog, zt []⟩
theorem zh10 : (zy10).Ok := zd trivial
def za10 : Ann := ⟨[], [], [], zv10, []⟩
def zgb (a0 : Int) : Tr (Bool) :=
  (.leaf ((decide (a0 ≥ 0)) && (decide (a0 < 4))))
def zhj (a0 : Int) : Option (Bool) := (zgb a0).run
def zr10 : LQ (Int) := (Par.q intP)
def zru : LQ (Bool) := (Par.q boolP)
def zne : SpecT := zu 0 zr10 1 [] (fun s => zgb s) default zru 1 []
theorem zrv : zh Tryz.prog 115 (zne).spec :=
  ze (A := za10) zh10 Facts.mix Tryz.func115 (c := zc10) (by kernel_rfl) (Lc := 0) trivial zr10 1 2 [] (fun s => zgb s) default zru 1 [] [] (by decide) (by kernel_rfl) (by rfl) (by decide) (by decide) (by rfl)
    (by rintro a0; kernel_rfl)
noncomputable def zc11 : Code := Tryz.f139.body.getD .skip
def zv11 : List (List Nat) := [[0, 1], [3]]
noncomputable def zy11 : EnvT := ⟨Tryz.prog, zt []⟩
theorem zh11 : (zy11).Ok := zd trivial
def za11 : Ann := ⟨[], [], [], zv11, []⟩
def zob (a0 : Bank) (a1 : Int) : Tr (Int × Bank × Int) :=
  (.guard ((0 : Int) ≤ a1 ∧ (a1 : Int) < 4)
  (.leaf (a1, a0, a1)))
def zik (a0 : Bank) (a1 : Int) : Option (Int × Bank × Int) := (zob a0 a1).run
def zr11 : LQ (Bank × Int) := (LQ.skip (LQ.const (.ptr 0 0)) (LQ.skip (LQ.const (.ptr 1 0)) (LQ.seq (LP.q bankL) (Par.q intP))))
def zxj : LQ (Int × Bank × Int) := (LQ.seq (LQ.pix1 0 0 4 1 0) (LQ.seq (LP.q bankL) (Par.q intP)))
def zs5 : SpecT := zu 2 zr11 2 [.cells 38 7, .cells 3 1] (fun s => zob s.1 s.2) default zxj 1 [.cells 38 7, .cells 3 1]
theorem zxk : zh Tryz.prog 139 (zs5).spec :=
  ze (A := za11) zh11 Facts.mix Tryz.func139 (c := zc11) (by kernel_rfl) (Lc := 2) trivial zr11 2 4 [.cells 38 7, .cells 3 1] (fun s => zob s.1 s.2) default zxj 1 [.cells 38 7, .cells 3 1] [] (by decide) (by kernel_rfl) (by rfl) (by decide) (by decide) (by rfl)
    (by rintro ⟨a0, a1⟩; kernel_rfl)
noncomputable def zc12 : Code := Tryz.f117.body.getD .skip
def zv12 : List (List Nat) := [[1], [2]]
noncomputable def zy12 : EnvT := ⟨Tryz.prog, zt []⟩
theorem zh12 : (zy12).Ok := zd trivial
def za12 : Ann := ⟨[], [], [], zv12, []⟩
def zo5 (a0 : Int) : Tr (Int) :=
  (.leaf a0)
def zcd (a0 : Int) : Option (Int) := (zo5 a0).run
def zr12 : LQ (Int) := (Par.q intP)
def z17 : LQ (Int) := (LQ.skip (LQ.const (.fn 139 [.ptr 0 0])) (Par.q intP))
def zyt : SpecT := zu 0 zr12 1 [] (fun s => zo5 s) default z17 1 [.cells 3 1]
theorem z18 : zh Tryz.prog 117 (zyt).spec :=
  ze (A := za12) zh12 Facts.mix Tryz.func117 (c := zc12) (by kernel_rfl) (Lc := 0) trivial zr12 1 3 [] (fun s => zo5 s) default z17 1 [.cells 3 1] [] (by decide) (by kernel_rfl) (by rfl) (by decide) (by decide) (by rfl)
    (by rintro a0; kernel_rfl)
noncomputable def zc13 : Code := Tryz.f118.body.getD .skip
def zv13 : List (List Nat) := [[0], [2]]
noncomputable def zy13 : EnvT := ⟨Tryz.prog, zt []⟩
theorem zh13 : (zy13).Ok := zd trivial
def za13 : Ann := ⟨[], [], [], zv13, []⟩
def zoc (a0 : Bank) : Tr (Bank) :=
  (.leaf a0)
def zev (a0 : Bank) : Option (Bank) := (zoc a0).run
def zr13 : LQ (Bank) := (LQ.skip (LQ.const (.ptr 0 0)) (LP.q bankL))
def zxl : LQ (Bank) := (LQ.skip (LQ.const (.ptr 0 4)) (LP.q bankL))
def zod : SpecT := zu 1 zr13 1 [.cells 38 7] (fun s => zoc s) default zxl 1 [.cells 38 7]
theorem zrb : zh Tryz.prog 118 (zod).spec :=
  ze (A := za13) zh13 Facts.mix Tryz.func118 (c := zc13) (by kernel_rfl) (Lc := 1) trivial zr13 1 3 [.cells 38 7] (fun s => zoc s) default zxl 1 [.cells 38 7] [] (by decide) (by kernel_rfl) (by rfl) (by decide) (by decide) (by rfl)
    (by rintro a0; kernel_rfl)
noncomputable def zc14 : Code := Tryz.f119.body.getD .skip
def zv14 : List (List Nat) := [[0], [2]]
noncomputable def zy14 : EnvT := ⟨Tryz.prog, zt []⟩
theorem zh14 : (zy14).Ok := zd trivial
def za14 : Ann := ⟨[], [], [], zv14, []⟩
def zl2 (a0 : Bank) : Tr (Bank) :=
  (.leaf a0)
def zdx (a0 : Bank) : Option (Bank) := (zl2 a0).run
def zr14 : LQ (Bank) := (LQ.skip (LQ.const (.ptr 0 0)) (LP.q bankL))
def zuz : LQ (Bank) := (LQ.skip (LQ.const (.ptr 0 5)) (LP.q bankL))
def zl3 : SpecT := zu 1 zr14 1 [.cells 38 7] (fun s => zl2 s) default zuz 1 [.cells 38 7]
theorem zo6 : zh Tryz.prog 119 (zl3).spec :=
  ze (A := za14) zh14 Facts.mix Tryz.func119 (c := zc14) (by kernel_rfl) (Lc := 1) trivial zr14 1 3 [.cells 38 7] (fun s => zl2 s) default zuz 1 [.cells 38 7] [] (by decide) (by kernel_rfl) (by rfl) (by decide) (by decide) (by rfl)
    (by rintro a0; kernel_rfl)
noncomputable def zc15 : Code := Tryz.f120.body.getD .skip
def zv15 : List (List Nat) := [[0], [2]]
noncomputable def zy15 : EnvT := ⟨Tryz.prog, zt []⟩
theorem zh15 : (zy15).Ok := zd trivial
def za15 : Ann := ⟨[], [], [], zv15, []⟩
def zqc (a0 : Bank) : Tr (Bank) :=
  (.leaf a0)
def zoe (a0 : Bank) : Option (Bank) := (zqc a0).run
def zr15 : LQ (Bank) := (LQ.skip (LQ.const (.ptr 0 0)) (LP.q bankL))
def zz7 : LQ (Bank) := (LQ.skip (LQ.const (.ptr 0 6)) (LP.q bankL))
def zu0 : SpecT := zu 1 zr15 1 [.cells 38 7] (fun s => zqc s) default zz7 1 [.cells 38 7]
theorem zz8 : zh Tryz.prog 120 (zu0).spec :=
  ze (A := za15) zh15 Facts.mix Tryz.func120 (c := zc15) (by kernel_rfl) (Lc := 1) trivial zr15 1 3 [.cells 38 7] (fun s => zqc s) default zz7 1 [.cells 38 7] [] (by decide) (by kernel_rfl) (by rfl) (by decide) (by decide) (by rfl)
    (by rintro a0; kernel_rfl)
noncomputable def zc16 : Code := Tryz.f116.body.getD .skip
def zv16 : List (List Nat) := [[1, 2, 3, 4, 8], [1, 2, 3, 4, 8, 10], [8, 9], [1, 2, 3, 4, 8, 20], [8, 9], [2, 3, 4, 8], [4, 8], [8, 9]]
noncomputable def zy16 : EnvT := ⟨Tryz.prog, zt [(50, zjh), (51, zjt), (139, zs5), (118, zod)]⟩
theorem zh16 : (zy16).Ok := zd ⟨zju, zjg, zxk, zrb, trivial⟩
def za16 : Ann := ⟨[], [], [], zv16, []⟩
def zof (a0 : Bank) (a1 : Int) (a2 : Int) : Tr (Bank × Int × Int) :=
  (.bind (zft a0) fun v1 =>
  (.guard (((!v1) = false → ((zaa a1).isSome = true) ∧ True))
  (.ite ((!v1) || (!((zaa a1).getD default)))
    (.leaf (a0, 2, a2))
    (.bind (zik a0 a2) fun v2 =>
    (.ite (decide ((v2.2.1.Free.get v2.1) < a1))
      (.leaf (v2.2.1, 7, v2.2.2))
      (.bind (zik v2.2.1 v2.2.2) fun v3 =>
      (.bind (zev ({ (v3.2.1 : Bank) with Free := (v3.2.1.Free.set v3.1 (IntKind.i64.wrap ((v3.2.1.Free.get v3.1) - a1))) })) fun v4 =>
      (.leaf ({ (v4 : Bank) with Bonded := IntKind.i64.wrap (v4.Bonded + a1) }, 0, v3.2.2)))))))))
def zil (a0 : Bank) (a1 : Int) (a2 : Int) : Option (Bank × Int × Int) := (zof a0 a1 a2).run
def zr16 : LQ (Bank × Int × Int) := (LQ.seq (Par.q (Par.ofLP bankL)) (LQ.skip (LQ.const (.fn 139 [.ptr 0 0])) (LQ.skip (LQ.const (.fn 118 [])) (LQ.seq (Par.q intP) (Par.q intP)))))
def zxm : LQ (Bank × Int × Int) := (LQ.seq (Par.q (Par.ofLP bankL)) (LQ.seq (Par.q intP) (Par.q intP)))
def zz9 : SpecT := zu 1 zr16 4 [.cells 3 1] (fun s => zof s.1 s.2.1 s.2.2) default zxm 2 [.cells 3 1]
theorem z6g : zh Tryz.prog 116 (zz9).spec :=
  ze (A := za16) zh16 Facts.mix Tryz.func116 (c := zc16) (by kernel_rfl) (Lc := 1) trivial zr16 4 5 [.cells 3 1] (fun s => zof s.1 s.2.1 s.2.2) default zxm 2 [.cells 3 1] [] (by decide) (by kernel_rfl) (by rfl) (by decide) (by decide) (by rfl)
    (by rintro ⟨a0, a1, a2⟩; kernel_rfl)
noncomputable def zc17 : Code := Tryz.f116.body.getD .skip
def zv17 : List (List Nat) := [[1, 2, 3, 4, 8], [1, 2, 3, 4, 8, 10], [8, 9], [1, 2, 3, 4, 8, 20], [8, 9], [2, 3, 4, 8], [4, 8], [8, 9]]
noncomputable def zy17 : EnvT := ⟨Tryz.prog, zt [(50, zjh), (51, zjt), (118, zod), (119, zl3)]⟩
theorem zh17 : (zy17).Ok := zd ⟨zju, zjg, zrb, zo6, trivial⟩
def za17 : Ann := ⟨[], [], [], zv17, []⟩
def zog (a0 : Bank) (a1 : Int) : Tr (Bank × Int) :=
  (.bind (zft a0) fun v1 =>
  (.guard (((!v1) = false → ((zaa a1).isSome = true) ∧ True))
  (.ite ((!v1) || (!((zaa a1).getD default)))
    (.leaf (a0, 2))
    (.bind (zev a0) fun v2 =>
    (.ite (decide (v2.Bonded < a1))
      (.leaf (v2, 7))
      (.bind (zev v2) fun v3 =>
      (.bind (zdx ({ (v3 : Bank) with Bonded := IntKind.i64.wrap (v3.Bonded - a1) })) fun v4 =>
      (.leaf ({ (v4 : Bank) with Waiting := IntKind.i64.wrap (v4.Waiting + a1) }, 0)))))))))
def zrc (a0 : Bank) (a1 : Int) : Option (Bank × Int) := (zog a0 a1).run
def zr17 : LQ (Bank × Int) := (LQ.seq (Par.q (Par.ofLP bankL)) (LQ.skip (LQ.const (.fn 118 [])) (LQ.skip (LQ.const (.fn 119 [])) (Par.q intP))))
def zxn : LQ (Bank × Int) := (LQ.seq (Par.q (Par.ofLP bankL)) (Par.q intP))
def z0a : SpecT := zu 0 zr17 4 [] (fun s => zog s.1 s.2) default zxn 2 []
theorem z6h : zh Tryz.prog 116 (z0a).spec :=
  ze (A := za17) zh17 Facts.mix Tryz.func116 (c := zc17) (by kernel_rfl) (Lc := 0) trivial zr17 4 4 [] (fun s => zog s.1 s.2) default zxn 2 [] [] (by decide) (by kernel_rfl) (by rfl) (by decide) (by decide) (by rfl)
    (by rintro ⟨a0, a1⟩; kernel_rfl)
noncomputable def zc18 : Code := Tryz.f116.body.getD .skip
def zv18 : List (List Nat) := [[1, 2, 3, 4, 8], [1, 2, 3, 4, 8, 10], [8, 9], [1, 2, 3, 4, 8, 20], [8, 9], [2, 3, 4, 8], [4, 8], [8, 9]]
noncomputable def zy18 : EnvT := ⟨Tryz.prog, zt [(50, zjh), (51, zjt), (119, zl3), (139, zs5)]⟩
theorem zh18 : (zy18).Ok := zd ⟨zju, zjg, zo6, zxk, trivial⟩
def za18 : Ann := ⟨[], [], [], zv18, []⟩
def zoh (a0 : Bank) (a1 : Int) (a2 : Int) : Tr (Bank × Int × Int) :=
  (.bind (zft a0) fun v1 =>
  (.guard (((!v1) = false → ((zaa a1).isSome = true) ∧ True))
  (.ite ((!v1) || (!((zaa a1).getD default)))
    (.leaf (a0, 2, a2))
    (.bind (zdx a0) fun v2 =>
    (.ite (decide (v2.Waiting < a1))
      (.leaf (v2, 7, a2))
      (.bind (zdx v2) fun v3 =>
      (.bind (zik ({ (v3 : Bank) with Waiting := IntKind.i64.wrap (v3.Waiting - a1) }) a2) fun v4 =>
      (.leaf ({ (v4.2.1 : Bank) with Free := (v4.2.1.Free.set v4.1 (IntKind.i64.wrap ((v4.2.1.Free.get v4.1) + a1))) }, 0, v4.2.2)))))))))
def zim (a0 : Bank) (a1 : Int) (a2 : Int) : Option (Bank × Int × Int) := (zoh a0 a1 a2).run
def zr18 : LQ (Bank × Int × Int) := (LQ.seq (Par.q (Par.ofLP bankL)) (LQ.skip (LQ.const (.fn 119 [])) (LQ.skip (LQ.const (.fn 139 [.ptr 0 0])) (LQ.seq (Par.q intP) (Par.q intP)))))
def zxo : LQ (Bank × Int × Int) := (LQ.seq (Par.q (Par.ofLP bankL)) (LQ.seq (Par.q intP) (Par.q intP)))
def z0b : SpecT := zu 1 zr18 4 [.cells 3 1] (fun s => zoh s.1 s.2.1 s.2.2) default zxo 2 [.cells 3 1]
theorem z6i : zh Tryz.prog 116 (z0b).spec :=
  ze (A := za18) zh18 Facts.mix Tryz.func116 (c := zc18) (by kernel_rfl) (Lc := 1) trivial zr18 4 5 [.cells 3 1] (fun s => zoh s.1 s.2.1 s.2.2) default zxo 2 [.cells 3 1] [] (by decide) (by kernel_rfl) (by rfl) (by decide) (by decide) (by rfl)
    (by rintro ⟨a0, a1, a2⟩; kernel_rfl)
noncomputable def zc19 : Code := Tryz.f116.body.getD .skip
def zv19 : List (List Nat) := [[1, 2, 3, 4, 8], [1, 2, 3, 4, 8, 10], [8, 9], [1, 2, 3, 4, 8, 20], [8, 9], [2, 3, 4, 8], [4, 8], [8, 9]]
noncomputable def zy19 : EnvT := ⟨Tryz.prog, zt [(50, zjh), (51, zjt), (118, zod), (120, zu0)]⟩
theorem zh19 : (zy19).Ok := zd ⟨zju, zjg, zrb, zz8, trivial⟩
def za19 : Ann := ⟨[], [], [], zv19, []⟩
def zoi (a0 : Bank) (a1 : Int) : Tr (Bank × Int) :=
  (.bind (zft a0) fun v1 =>
  (.guard (((!v1) = false → ((zaa a1).isSome = true) ∧ True))
  (.ite ((!v1) || (!((zaa a1).getD default)))
    (.leaf (a0, 2))
    (.bind (zev a0) fun v2 =>
    (.ite (decide (v2.Bonded < a1))
      (.leaf (v2, 7))
      (.bind (zev v2) fun v3 =>
      (.bind (zoe ({ (v3 : Bank) with Bonded := IntKind.i64.wrap (v3.Bonded - a1) })) fun v4 =>
      (.leaf ({ (v4 : Bank) with Burnt := IntKind.i64.wrap (v4.Burnt + a1) }, 0)))))))))
def zrd (a0 : Bank) (a1 : Int) : Option (Bank × Int) := (zoi a0 a1).run
def zr19 : LQ (Bank × Int) := (LQ.seq (Par.q (Par.ofLP bankL)) (LQ.skip (LQ.const (.fn 118 [])) (LQ.skip (LQ.const (.fn 120 [])) (Par.q intP))))
def zxp : LQ (Bank × Int) := (LQ.seq (Par.q (Par.ofLP bankL)) (Par.q intP))
def z0c : SpecT := zu 0 zr19 4 [] (fun s => zoi s.1 s.2) default zxp 2 []
theorem z6j : zh Tryz.prog 116 (z0c).spec :=
  ze (A := za19) zh19 Facts.mix Tryz.func116 (c := zc19) (by kernel_rfl) (Lc := 0) trivial zr19 4 4 [] (fun s => zoi s.1 s.2) default zxp 2 [] [] (by decide) (by kernel_rfl) (by rfl) (by decide) (by decide) (by rfl)
    (by rintro ⟨a0, a1⟩; kernel_rfl)
noncomputable def zc20 : Code := Tryz.f116.body.getD .skip
def zv20 : List (List Nat) := [[1, 2, 3, 4, 8], [1, 2, 3, 4, 8, 10], [8, 9], [1, 2, 3, 4, 8, 20], [8, 9], [2, 3, 4, 8], [4, 8], [8, 9]]
noncomputable def zy20 : EnvT := ⟨Tryz.prog, zt [(50, zjh), (51, zjt), (119, zl3), (120, zu0)]⟩
theorem zh20 : (zy20).Ok := zd ⟨zju, zjg, zo6, zz8, trivial⟩
def za20 : Ann := ⟨[], [], [], zv20, []⟩
def zoj (a0 : Bank) (a1 : Int) : Tr (Bank × Int) :=
  (.bind (zft a0) fun v1 =>
  (.guard (((!v1) = false → ((zaa a1).isSome = true) ∧ True))
  (.ite ((!v1) || (!((zaa a1).getD default)))
    (.leaf (a0, 2))
    (.bind (zdx a0) fun v2 =>
    (.ite (decide (v2.Waiting < a1))
      (.leaf (v2, 7))
      (.bind (zdx v2) fun v3 =>
      (.bind (zoe ({ (v3 : Bank) with Waiting := IntKind.i64.wrap (v3.Waiting - a1) })) fun v4 =>
      (.leaf ({ (v4 : Bank) with Burnt := IntKind.i64.wrap (v4.Burnt + a1) }, 0)))))))))
def zre (a0 : Bank) (a1 : Int) : Option (Bank × Int) := (zoj a0 a1).run
def zr20 : LQ (Bank × Int) := (LQ.seq (Par.q (Par.ofLP bankL)) (LQ.skip (LQ.const (.fn 119 [])) (LQ.skip (LQ.const (.fn 120 [])) (Par.q intP))))
def zxq : LQ (Bank × Int) := (LQ.seq (Par.q (Par.ofLP bankL)) (Par.q intP))
def z0d : SpecT := zu 0 zr20 4 [] (fun s => zoj s.1 s.2) default zxq 2 []
theorem z6k : zh Tryz.prog 116 (z0d).spec :=
  ze (A := za20) zh20 Facts.mix Tryz.func116 (c := zc20) (by kernel_rfl) (Lc := 0) trivial zr20 4 4 [] (fun s => zoj s.1 s.2) default zxq 2 [] [] (by decide) (by kernel_rfl) (by rfl) (by decide) (by decide) (by rfl)
    (by rintro ⟨a0, a1⟩; kernel_rfl)
def zo7 : SpecT := altT zz9 (altT z0a (altT z0b (altT z0c (z0d))))
theorem zqd : zh Tryz.prog 116 (zo7).spec := z8k z6g (z8k z6h (z8k z6i (z8k z6j (z6k))))
noncomputable def zc22 : Code := Tryz.f92.body.getD .skip
def zv22 : List (List Nat) := [[1, 2, 3, 6], [1, 2, 3, 6, 10], [6, 7], [6, 7]]
noncomputable def zy22 : EnvT := ⟨Tryz.prog, zt [(115, zne), (117, zyt), (116, zo7)]⟩
theorem zh22 : (zy22).Ok := zd ⟨zrv, z18, zqd, trivial⟩
def za22 : Ann := ⟨[], [], [], zv22, []⟩
def zs6 (a0 : Bank) (a1 : Int) (a2 : Int) : Tr (Bank × Int) :=
  (.bind (zhj a1) fun v1 =>
  (.ite (!v1)
    (.leaf (a0, 4))
    (.guard ((zcd a1).isSome = true)
    (.guard ((zil a0 a2 ((zcd a1).getD default)).isSome = true)
    (.leaf ((((zil a0 a2 ((zcd a1).getD default)).getD default).1), ((zil a0 a2 ((zcd a1).getD default)).getD default).2.1))))))
def zqe (a0 : Bank) (a1 : Int) (a2 : Int) : Option (Bank × Int) := (zs6 a0 a1 a2).run
def zr22 : LQ (Bank × Int × Int) := (LQ.seq (Par.q (Par.ofLP bankL)) (LQ.seq (Par.q intP) (Par.q intP)))
def z19 : LQ (Bank × Int) := (LQ.seq (Par.q (Par.ofLP bankL)) (Par.q intP))
def z4i : SpecT := zu 0 zr22 3 [] (fun s => zs6 s.1 s.2.1 s.2.2) default z19 2 []
theorem zaav : zh Tryz.prog 92 (z4i).spec :=
  ze (A := za22) zh22 Facts.mix Tryz.func92 (c := zc22) (by kernel_rfl) (Lc := 0) trivial zr22 3 5 [] (fun s => zs6 s.1 s.2.1 s.2.2) default z19 2 [] [] (by decide) (by kernel_rfl) (by rfl) (by decide) (by decide) (by rfl)
    (by rintro ⟨a0, a1, a2⟩; kernel_rfl)
noncomputable def zc23 : Code := Tryz.f93.body.getD .skip
def zv23 : List (List Nat) := [[1, 2, 4], [4, 5]]
noncomputable def zy23 : EnvT := ⟨Tryz.prog, zt [(116, zo7)]⟩
theorem zh23 : (zy23).Ok := zd ⟨zqd, trivial⟩
def za23 : Ann := ⟨[], [], [], zv23, []⟩
def zok (a0 : Bank) (a1 : Int) : Tr (Bank × Int) :=
  (.bind (zrc a0 a1) fun v2 =>
  (.leaf (v2.1, v2.2)))
def zin (a0 : Bank) (a1 : Int) : Option (Bank × Int) := (zok a0 a1).run
def zr23 : LQ (Bank × Int) := (LQ.seq (Par.q (Par.ofLP bankL)) (Par.q intP))
def zxr : LQ (Bank × Int) := (LQ.seq (Par.q (Par.ofLP bankL)) (Par.q intP))
def z0e : SpecT := zu 0 zr23 2 [] (fun s => zok s.1 s.2) default zxr 2 []
theorem z6l : zh Tryz.prog 93 (z0e).spec :=
  ze (A := za23) zh23 Facts.mix Tryz.func93 (c := zc23) (by kernel_rfl) (Lc := 0) trivial zr23 2 4 [] (fun s => zok s.1 s.2) default zxr 2 [] [] (by decide) (by kernel_rfl) (by rfl) (by decide) (by decide) (by rfl)
    (by rintro ⟨a0, a1⟩; kernel_rfl)
noncomputable def zc24 : Code := Tryz.f127.body.getD .skip
def zv24 : List (List Nat) := [[1, 2, 3, 6], [1, 2, 3, 6, 10], [6, 7], [6, 7]]
noncomputable def zy24 : EnvT := ⟨Tryz.prog, zt [(115, zne), (117, zyt), (116, zo7)]⟩
theorem zh24 : (zy24).Ok := zd ⟨zrv, z18, zqd, trivial⟩
def za24 : Ann := ⟨[], [], [], zv24, []⟩
def zwq (a0 : Bank) (a1 : Int) (a2 : Int) : Tr (Bank × Int) :=
  (.bind (zhj a1) fun v1 =>
  (.ite (!v1)
    (.leaf (a0, 4))
    (.guard ((zcd a1).isSome = true)
    (.guard ((zim a0 a2 ((zcd a1).getD default)).isSome = true)
    (.leaf ((((zim a0 a2 ((zcd a1).getD default)).getD default).1), ((zim a0 a2 ((zcd a1).getD default)).getD default).2.1))))))
def zyu (a0 : Bank) (a1 : Int) (a2 : Int) : Option (Bank × Int) := (zwq a0 a1 a2).run
def zr24 : LQ (Bank × Int × Int) := (LQ.seq (Par.q (Par.ofLP bankL)) (LQ.seq (Par.q intP) (Par.q intP)))
def z4j : LQ (Bank × Int) := (LQ.seq (Par.q (Par.ofLP bankL)) (Par.q intP))
def z7d : SpecT := zu 0 zr24 3 [] (fun s => zwq s.1 s.2.1 s.2.2) default z4j 2 []
theorem zac9 : zh Tryz.prog 127 (z7d).spec :=
  ze (A := za24) zh24 Facts.mix Tryz.func127 (c := zc24) (by kernel_rfl) (Lc := 0) trivial zr24 3 5 [] (fun s => zwq s.1 s.2.1 s.2.2) default z4j 2 [] [] (by decide) (by kernel_rfl) (by rfl) (by decide) (by decide) (by rfl)
    (by rintro ⟨a0, a1, a2⟩; kernel_rfl)
noncomputable def zc25 : Code := Tryz.f96.body.getD .skip
def zv25 : List (List Nat) := [[1, 2, 3, 6], [2, 3, 6, 8, 9], [2, 3, 6, 8, 9, 17], [6, 7], [3, 6, 8, 9], [3, 6, 8, 9, 27], [6, 7], [6, 7]]
noncomputable def zy25 : EnvT := ⟨Tryz.prog, zt [(116, zo7)]⟩
theorem zh25 : (zy25).Ok := zd ⟨zqd, trivial⟩
def za25 : Ann := ⟨[], [], [], zv25, []⟩
def zs7 (a0 : Bank) (a1 : Int) (a2 : Int) : Tr (Bank × Int) :=
  (.bind (zrd a0 a1) fun v4 =>
  (.ite (v4.2 != 0)
    (.leaf (a0, v4.2))
    (.bind (zre v4.1 a2) fun v9 =>
    (.ite (v9.2 != 0)
      (.leaf (a0, v9.2))
      (.leaf (v9.1, 0))))))
def zu1 (a0 : Bank) (a1 : Int) (a2 : Int) : Option (Bank × Int) := (zs7 a0 a1 a2).run
def zr25 : LQ (Bank × Int × Int) := (LQ.seq (Par.q (Par.ofLP bankL)) (LQ.seq (Par.q intP) (Par.q intP)))
def z2a : LQ (Bank × Int) := (LQ.seq (Par.q (Par.ofLP bankL)) (Par.q intP))
def z4k : SpecT := zu 0 zr25 3 [] (fun s => zs7 s.1 s.2.1 s.2.2) default z2a 2 []
theorem zaaw : zh Tryz.prog 96 (z4k).spec :=
  ze (A := za25) zh25 Facts.mix Tryz.func96 (c := zc25) (by kernel_rfl) (Lc := 0) trivial zr25 3 5 [] (fun s => zs7 s.1 s.2.1 s.2.2) default z2a 2 [] [] (by decide) (by kernel_rfl) (by rfl) (by decide) (by decide) (by rfl)
    (by rintro ⟨a0, a1, a2⟩; kernel_rfl)
noncomputable def zc26 : Code := Tryz.f32.body.getD .skip
def zv26 : List (List Nat) := [[0], [2]]
noncomputable def zy26 : EnvT := ⟨Tryz.prog, zt []⟩
theorem zh26 : (zy26).Ok := zd trivial
def za26 : Ann := ⟨[], [], [], zv26, []⟩
def ze9 (a0 : Int) : Tr (Int) :=
  (.guard ((5 : Int) ≠ 0)
  (.leaf (if (IntKind.i64.wrap (Int.tdiv a0 5)) > 1 then (IntKind.i64.wrap (Int.tdiv a0 5)) else 1)))
def zbi (a0 : Int) : Option (Int) := (ze9 a0).run
def zr26 : LQ (Int) := (Par.q intP)
def zqf : LQ (Int) := (Par.q intP)
def zhk : SpecT := zu 0 zr26 1 [] (fun s => ze9 s) default zqf 1 []
theorem zj6 : zh Tryz.prog 32 (zhk).spec :=
  ze (A := za26) zh26 Facts.mix Tryz.func32 (c := zc26) (by kernel_rfl) (Lc := 0) trivial zr26 1 2 [] (fun s => ze9 s) default zqf 1 [] [] (by decide) (by kernel_rfl) (by rfl) (by decide) (by decide) (by rfl)
    (by rintro a0; kernel_rfl)
noncomputable def zc27 : Code := Tryz.f67.body.getD .skip
def zv27 : List (List Nat) := [[0, 1, 4], [4]]
noncomputable def zy27 : EnvT := ⟨Tryz.prog, zt [(32, zhk)]⟩
theorem zh27 : (zy27).Ok := zd ⟨zj6, trivial⟩
def za27 : Ann := ⟨[], [], [], zv27, []⟩
def zs8 (a0 : Int) (a1 : Int) : Tr (Meter) :=
  (.bind (zbi a0) fun v1 =>
  (.leaf (⟨v1, IntKind.i64.wrap (a1 + 10)⟩ : Meter)))
def zqg (a0 : Int) (a1 : Int) : Option (Meter) := (zs8 a0 a1).run
def zr27 : LQ (Int × Int) := (LQ.seq (Par.q intP) (Par.q intP))
def z2b : LQ (Meter) := (Par.q (Par.ofLP meterL))
def zyv : SpecT := zu 0 zr27 2 [] (fun s => zs8 s.1 s.2) default z2b 1 []
theorem z2c : zh Tryz.prog 67 (zyv).spec :=
  ze (A := za27) zh27 Facts.mix Tryz.func67 (c := zc27) (by kernel_rfl) (Lc := 0) trivial zr27 2 3 [] (fun s => zs8 s.1 s.2) default z2b 1 [] [] (by decide) (by kernel_rfl) (by rfl) (by decide) (by decide) (by rfl)
    (by rintro ⟨a0, a1⟩; kernel_rfl)
noncomputable def zc28 : Code := Tryz.f97.body.getD .skip
def zv28 : List (List Nat) := [[1, 2, 3, 6], [1, 2, 3, 6, 10], [6], [6]]
noncomputable def zy28 : EnvT := ⟨Tryz.prog, zt [(67, zyv)]⟩
theorem zh28 : (zy28).Ok := zd ⟨z2c, trivial⟩
def za28 : Ann := ⟨[], [], [], zv28, []⟩
def zqh (a0 : Meter) (a1 : Int) (a2 : Int) : Tr (Meter) :=
  (.ite (decide (a2 ≥ a0.Next))
    (.bind (zqg a1 a2) fun v1 =>
    (.leaf v1))
    (.leaf a0))
def zol (a0 : Meter) (a1 : Int) (a2 : Int) : Option (Meter) := (zqh a0 a1 a2).run
def zr28 : LQ (Meter × Int × Int) := (LQ.seq (Par.q (Par.ofLP meterL)) (LQ.seq (Par.q intP) (Par.q intP)))
def z0f : LQ (Meter) := (Par.q (Par.ofLP meterL))
def z2d : SpecT := zu 0 zr28 3 [] (fun s => zqh s.1 s.2.1 s.2.2) default z0f 1 []
theorem z83 : zh Tryz.prog 97 (z2d).spec :=
  ze (A := za28) zh28 Facts.mix Tryz.func97 (c := zc28) (by kernel_rfl) (Lc := 0) trivial zr28 3 4 [] (fun s => zqh s.1 s.2.1 s.2.2) default z0f 1 [] [] (by decide) (by kernel_rfl) (by rfl) (by decide) (by decide) (by rfl)
    (by rintro ⟨a0, a1, a2⟩; kernel_rfl)
noncomputable def zc29 : Code := Tryz.f122.body.getD .skip
def zv29 : List (List Nat) := [[1, 2, 4], [1, 2, 4, 8], [4, 5], [2, 4], [4, 5]]
noncomputable def zy29 : EnvT := ⟨Tryz.prog, zt []⟩
theorem zh29 : (zy29).Ok := zd trivial
def za29 : Ann := ⟨[], [], [], zv29, []⟩
def zqi (a0 : Meter) (a1 : Int) : Tr (Meter × Bool) :=
  (.ite (decide (a0.Left ≤ 0))
    (.leaf (a0, false))
    (.leaf ((⟨IntKind.i64.wrap (a0.Left - a1), a0.Next⟩ : Meter), true)))
def zhl (a0 : Meter) (a1 : Int) : Option (Meter × Bool) := (zqi a0 a1).run
def zr29 : LQ (Meter × Int) := (LQ.seq (Par.q (Par.ofLP meterL)) (Par.q intP))
def z0g : LQ (Meter × Bool) := (LQ.seq (Par.q (Par.ofLP meterL)) (Par.q boolP))
def z2e : SpecT := zu 0 zr29 2 [] (fun s => zqi s.1 s.2) default z0g 2 []
theorem z84 : zh Tryz.prog 122 (z2e).spec :=
  ze (A := za29) zh29 Facts.mix Tryz.func122 (c := zc29) (by kernel_rfl) (Lc := 0) trivial zr29 2 4 [] (fun s => zqi s.1 s.2) default z0g 2 [] [] (by decide) (by kernel_rfl) (by rfl) (by decide) (by decide) (by rfl)
    (by rintro ⟨a0, a1⟩; kernel_rfl)
end
end Go.Proofs.YtmakmlnfbdablaaGreat.Ab
