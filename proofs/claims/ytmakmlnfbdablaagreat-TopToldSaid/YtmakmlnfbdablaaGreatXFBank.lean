/-
  The functions, each by its tree.
-/
import Derived.Test.YtmakmlnfbdablaaGreatXAbFun
import Derived.Test.YtmakmlnfbdablaaGreatXAbStructs
import Derived.Test.YtmakmlnfbdablaaGreatXFRatio
import Derived.Test.YtmakmlnfbdablaaGreatXFacts
namespace Go.Proofs.YtmakmlnfbdablaaGreat.Ab
open Go Go.RowKit
set_option maxRecDepth 100000
set_option linter.unusedVariables false
set_option linter.unusedSimpArgs false
noncomputable section
noncomputable def zc7 : Code := Tryz.f89.body.getD .skip
def zv7 : List (List Nat) := [[0], [0, 1], [0, 1, 3], [0, 1, 3, 4], [0, 1, 2, 3], [0, 1, 3], [0, 1, 3], [0]]
noncomputable def zy7 : EnvT := ⟨Tryz.prog, zr []⟩
theorem zh7 : (zy7).Ok := ze trivial
def zga (x0 : Int) (x1 : Bank) (x2 : Bank) : Tr ((Int × Bank × Bank) ⊕ (Bank × Bank)) :=
  (.ite (decide (x0 < 4))
    (.guard ((0 : Int) ≤ x0 ∧ (x0 : Int) < 4)
    (.leaf (.inl (IntKind.i64.wrap (x0 + 1), x1, { (x2 : Bank) with Free := (x2.Free.set x0 100000) }))))
    (.leaf (.inr (x1, x2))))
def zsd (x0 : Int) (x1 : Bank) (x2 : Bank) : Option (Bank × Bank) := zeh (fun s : Int × Bank × Bank => (zga s.1 s.2.1 s.2.2).run) (x0, x1, x2)
def za7a : Ann := ⟨[], [], [], zv7, []⟩
def zq7a : EndD (Int × Bank × Bank) := ⟨(LQ.skip (LQ.const (.ptr 0 0)) (LQ.skip (LQ.const (.ptr 1 0)) (LQ.seq (Par.q intP) (LQ.seq (LP.q bankL) (LP.q bankL))))), ⟨[0, 1, 3], []⟩, [.cells 38 7, .cells 38 7]⟩
def zavq : EndD (Bank × Bank) := ⟨(LQ.skip (LQ.const (.ptr 0 0)) (LQ.skip (LQ.const (.ptr 1 0)) (LQ.seq (LP.q bankL) (LP.q bankL)))), ⟨[0, 1], []⟩, [.cells 38 7, .cells 38 7]⟩
def zl7a : St → Option LR := L1 11 4 0 zq7a (.exit 0) zavq (fun s => zga s.1 s.2.1 s.2.2)
theorem zk7a : zq (zy7).env 0 (sub zc7 [0, 1, 0, 1, 1]) zl7a :=
  ziy (A := za7a) zh7 Facts.mix trivial (k := zci (sub zc7 [0, 1, 0, 1, 1])) (by kernel_rfl) rfl (by rintro ⟨x0, x1, x2⟩; kernel_rfl)
def za7 : Ann := ⟨[([0, 1, 0, 1, 1], zl7a)], [], [], zv7, []⟩
def zxo  : Tr (Bank) :=
  (.bind (zsd 0 (⟨(⟨0, 0, 0, 0⟩ : (A4 Int)), 0, 0, 0⟩ : Bank) (⟨(⟨0, 0, 0, 0⟩ : (A4 Int)), 0, 0, 0⟩ : Bank)) fun v1 =>
  (.leaf v1.2))
def zzv  : Option (Bank) := (zxo ).run
def zr7 : LQ (Unit) := LQ.nil
def z5i : LQ (Bank) := (Par.q (Par.ofLP bankL))
def z8g : SpecT := zv 0 zr7 0 [] (fun s => zxo ) default z5i 1 []
theorem zaek : zi Tryz.prog 89 (z8g).spec :=
  zf (A := za7) zh7 Facts.mix Tryz.func89 (c := zc7) (by kernel_rfl) (Lc := 0) ⟨zk7a, trivial⟩ zr7 0 4 [] (fun s => zxo ) default z5i 1 [] [] (by decide) (by kernel_rfl) (by rfl) (by decide) (by decide) (by rfl)
    (by rintro _; kernel_rfl)
noncomputable def zc8 : Code := Tryz.f20.body.getD .skip
def zv8 : List (List Nat) := [[1], [1, 3], [3, 15, 16], [3, 15, 16, 17], [3, 5, 15, 16], [3, 15, 16], [3, 15, 16], [2]]
noncomputable def zy8 : EnvT := ⟨Tryz.prog, zr []⟩
theorem zh8 : (zy8).Ok := ze trivial
def zgb (x0 : Int) (x1 : (A4 Int)) (x2 : Int) : Tr ((Int × (A4 Int) × Int) ⊕ (Int)) :=
  (.ite (decide (x2 < 4))
    (.guard ((0 : Int) ≤ x2 ∧ (x2 : Int) < 4)
    (.leaf (.inl (IntKind.i64.wrap (x0 + (x1.get x2)), x1, IntKind.i64.wrap (x2 + 1)))))
    (.leaf (.inr x0)))
def zse (x0 : Int) (x1 : (A4 Int)) (x2 : Int) : Option (Int) := zeh (fun s : Int × (A4 Int) × Int => (zgb s.1 s.2.1 s.2.2).run) (x0, x1, x2)
def za8a : Ann := ⟨[], [], [], zv8, []⟩
def zq8a : EndD (Int × (A4 Int) × Int) := ⟨(LQ.seq (Par.q intP) (LQ.seq (Par.q (Par.ofLP (a4L (LP.one intP)))) (Par.q intP))), ⟨[3, 15, 16], []⟩, []⟩
def zavr : EndD (Int) := ⟨(Par.q intP), ⟨[3], []⟩, []⟩
def zl8a : St → Option LR := L1 24 3 0 zq8a (.exit 0) zavr (fun s => zgb s.1 s.2.1 s.2.2)
theorem zk8a : zq (zy8).env 0 (sub zc8 [0, 1, 0, 1, 1]) zl8a :=
  ziy (A := za8a) zh8 Facts.mix trivial (k := zci (sub zc8 [0, 1, 0, 1, 1])) (by kernel_rfl) rfl (by rintro ⟨x0, x1, x2⟩; kernel_rfl)
def za8 : Ann := ⟨[([0, 1, 0, 1, 1], zl8a)], [], [], zv8, []⟩
def zxp (a0 : Bank) : Tr (Int) :=
  (.bind (zse (IntKind.i64.wrap ((IntKind.i64.wrap (a0.Bonded + a0.Waiting)) + a0.Burnt)) a0.Free 0) fun v1 =>
  (.leaf v1))
def zzw (a0 : Bank) : Option (Int) := (zxp a0).run
def zr8 : LQ (Bank) := (Par.q (Par.ofLP bankL))
def z5j : LQ (Int) := (Par.q intP)
def z8h : SpecT := zv 0 zr8 1 [] (fun s => zxp s) default z5j 1 []
theorem zael : zi Tryz.prog 20 (z8h).spec :=
  zf (A := za8) zh8 Facts.mix Tryz.func20 (c := zc8) (by kernel_rfl) (Lc := 0) ⟨zk8a, trivial⟩ zr8 1 3 [] (fun s => zxp s) default z5j 1 [] [] (by decide) (by kernel_rfl) (by rfl) (by decide) (by decide) (by rfl)
    (by rintro a0; kernel_rfl)
noncomputable def zc9 : Code := Tryz.f50.body.getD .skip
def zv9 : List (List Nat) := [[1], [1, 14, 15, 16], [1, 14, 15, 16, 17], [1, 4, 14, 15, 16], [1, 14, 15, 16, 25], [2], [1, 14, 15, 16], [2]]
noncomputable def zy9 : EnvT := ⟨Tryz.prog, zr [(20, z8h)]⟩
theorem zh9 : (zy9).Ok := ze ⟨zael, trivial⟩
def ziz (x0 : Int) (x1 : Int) (x2 : Bank) (x3 : (List Int)) : Tr ((Int × Int × Bank × (List Int)) ⊕ ((Bool) ⊕ (Bank))) :=
  (.ite (decide (x1 < x0))
    (.guard ((0 : Int) ≤ x1 ∧ x1 < ((Sl.len (.ints x3) : Nat) : Int))
    (.ite ((decide ((x3.getD x1.toNat 0) < 0)) || (decide ((x3.getD x1.toNat 0) > 400000)))
      (.leaf (.inr (.inl false)))
      (.leaf (.inl (x0, IntKind.i64.wrap (x1 + 1), x2, x3)))))
    (.leaf (.inr (.inr x2))))
def zwa (x0 : Int) (x1 : Int) (x2 : Bank) (x3 : (List Int)) : Option ((Bool) ⊕ (Bank)) := zeh (fun s : Int × Int × Bank × (List Int) => (ziz s.1 s.2.1 s.2.2.1 s.2.2.2).run) (x0, x1, x2, x3)
def za9a : Ann := ⟨[], [], [], zv9, []⟩
def zq9a : EndD (Int × Int × Bank × (List Int)) := ⟨(LQ.skip (LQ.const (.ptr 0 0)) (LQ.skip (LQ.const (.own 1)) (LQ.seq (Par.q intP) (LQ.seq (Par.q intP) (LQ.seq (LP.q bankL) (Par.q zhg)))))), ⟨[1, 14, 15, 16], [.nilown 14 3 (.ints [])]⟩, [.cells 38 7, .rows 3]⟩
def zavs : EndD (Bool) := ⟨(Par.q boolP), ⟨[2], []⟩, []⟩
def zavt : EndD (Bank) := ⟨(LQ.skip (LQ.const (.ptr 0 0)) (LP.q bankL)), ⟨[1], []⟩, [.cells 38 7]⟩
def zl9a : St → Option LR := L2 30 5 0 zq9a .ret zavs (.exit 0) zavt (fun s => ziz s.1 s.2.1 s.2.2.1 s.2.2.2)
theorem zk9a : zq (zy9).env 0 (sub zc9 [0, 1, 0, 1]) zl9a :=
  zn2 (A := za9a) zh9 Facts.mix trivial (k := zci (sub zc9 [0, 1, 0, 1])) (by kernel_rfl) rfl rfl (by rintro ⟨x0, x1, x2, x3⟩; kernel_rfl)
def za9 : Ann := ⟨[([0, 1, 0, 1], zl9a)], [], [], zv9, []⟩
def ztw (a0 : Bank) : Tr (Bool) :=
  (.guard ((Sl.len (.ints [a0.Free.x0, a0.Free.x1, a0.Free.x2, a0.Free.x3]) + Sl.len (.ints [a0.Bonded, a0.Waiting, a0.Burnt])) * 8 ≤ 140737488355328)
  (.guard (0 < Sl.len (.ints [a0.Bonded, a0.Waiting, a0.Burnt]))
  (.two (zwa ((([a0.Free.x0, a0.Free.x1, a0.Free.x2, a0.Free.x3] ++ [a0.Bonded, a0.Waiting, a0.Burnt]).length : Nat) : Int) 0 a0 ([a0.Free.x0, a0.Free.x1, a0.Free.x2, a0.Free.x3] ++ [a0.Bonded, a0.Waiting, a0.Burnt])) (fun v1 =>
    (.leaf v1)) (fun v2 =>
    (.bind (zzw v2) fun v3 =>
    (.leaf (v3 == 400000)))))))
def zf1 (a0 : Bank) : Option (Bool) := (ztw a0).run
def zr9 : LQ (Bank) := (Par.q (Par.ofLP bankL))
def z2y : LQ (Bool) := (Par.q boolP)
def zjw : SpecT := zv 0 zr9 1 [] (fun s => ztw s) default z2y 1 []
theorem zkc : zi Tryz.prog 50 (zjw).spec :=
  zf (A := za9) zh9 Facts.mix Tryz.func50 (c := zc9) (by kernel_rfl) (Lc := 0) ⟨zk9a, trivial⟩ zr9 1 5 [] (fun s => ztw s) default z2y 1 [] [] (by decide) (by kernel_rfl) (by rfl) (by decide) (by decide) (by rfl)
    (by rintro a0; kernel_rfl)
noncomputable def zc10 : Code := Tryz.f115.body.getD .skip
def zv10 : List (List Nat) := [[0], [2]]
noncomputable def zy10 : EnvT := ⟨Tryz.prog, zr []⟩
theorem zh10 : (zy10).Ok := ze trivial
def za10 : Ann := ⟨[], [], [], zv10, []⟩
def zgk (a0 : Int) : Tr (Bool) :=
  (.leaf ((decide (a0 ≥ 0)) && (decide (a0 < 4))))
def zhx (a0 : Int) : Option (Bool) := (zgk a0).run
def zr10 : LQ (Int) := (Par.q intP)
def zsv : LQ (Bool) := (Par.q boolP)
def zn3 : SpecT := zv 0 zr10 1 [] (fun s => zgk s) default zsv 1 []
theorem zsw : zi Tryz.prog 115 (zn3).spec :=
  zf (A := za10) zh10 Facts.mix Tryz.func115 (c := zc10) (by kernel_rfl) (Lc := 0) trivial zr10 1 2 [] (fun s => zgk s) default zsv 1 [] [] (by decide) (by kernel_rfl) (by rfl) (by decide) (by decide) (by rfl)
    (by rintro a0; kernel_rfl)
noncomputable def zc11 : Code := Tryz.f139.body.getD .skip
def zv11 : List (List Nat) := [[0, 1], [3]]
noncomputable def zy11 : EnvT := ⟨Tryz.prog, zr []⟩
theorem zh11 : (zy11).Ok := ze trivial
def za11 : Ann := ⟨[], [], [], zv11, []⟩
def zox (a0 : Bank) (a1 : Int) : Tr (Int × Bank × Int) :=
  (.guard ((0 : Int) ≤ a1 ∧ (a1 : Int) < 4)
  (.leaf (a1, a0, a1)))
def zi0 (a0 : Bank) (a1 : Int) : Option (Int × Bank × Int) := (zox a0 a1).run
def zr11 : LQ (Bank × Int) := (LQ.skip (LQ.const (.ptr 0 0)) (LQ.skip (LQ.const (.ptr 1 0)) (LQ.seq (LP.q bankL) (Par.q intP))))
def zyg : LQ (Int × Bank × Int) := (LQ.seq (LQ.pix1 0 0 4 1 0) (LQ.seq (LP.q bankL) (Par.q intP)))
def ztx : SpecT := zv 2 zr11 2 [.cells 38 7, .cells 3 1] (fun s => zox s.1 s.2) default zyg 1 [.cells 38 7, .cells 3 1]
theorem zyh : zi Tryz.prog 139 (ztx).spec :=
  zf (A := za11) zh11 Facts.mix Tryz.func139 (c := zc11) (by kernel_rfl) (Lc := 2) trivial zr11 2 4 [.cells 38 7, .cells 3 1] (fun s => zox s.1 s.2) default zyg 1 [.cells 38 7, .cells 3 1] [] (by decide) (by kernel_rfl) (by rfl) (by decide) (by decide) (by rfl)
    (by rintro ⟨a0, a1⟩; kernel_rfl)
noncomputable def zc12 : Code := Tryz.f117.body.getD .skip
def zv12 : List (List Nat) := [[1], [2]]
noncomputable def zy12 : EnvT := ⟨Tryz.prog, zr []⟩
theorem zh12 : (zy12).Ok := ze trivial
def za12 : Ann := ⟨[], [], [], zv12, []⟩
def zpt (a0 : Int) : Tr (Int) :=
  (.leaf a0)
def zce (a0 : Int) : Option (Int) := (zpt a0).run
def zr12 : LQ (Int) := (Par.q intP)
def z2z : LQ (Int) := (LQ.skip (LQ.const (.fn 139 [.ptr 0 0])) (Par.q intP))
def zzx : SpecT := zv 0 zr12 1 [] (fun s => zpt s) default z2z 1 [.cells 3 1]
theorem z20 : zi Tryz.prog 117 (zzx).spec :=
  zf (A := za12) zh12 Facts.mix Tryz.func117 (c := zc12) (by kernel_rfl) (Lc := 0) trivial zr12 1 3 [] (fun s => zpt s) default z2z 1 [.cells 3 1] [] (by decide) (by kernel_rfl) (by rfl) (by decide) (by decide) (by rfl)
    (by rintro a0; kernel_rfl)
noncomputable def zc13 : Code := Tryz.f118.body.getD .skip
def zv13 : List (List Nat) := [[0], [2]]
noncomputable def zy13 : EnvT := ⟨Tryz.prog, zr []⟩
theorem zh13 : (zy13).Ok := ze trivial
def za13 : Ann := ⟨[], [], [], zv13, []⟩
def zoy (a0 : Bank) : Tr (Bank) :=
  (.leaf a0)
def ze8 (a0 : Bank) : Option (Bank) := (zoy a0).run
def zr13 : LQ (Bank) := (LQ.skip (LQ.const (.ptr 0 0)) (LP.q bankL))
def zyi : LQ (Bank) := (LQ.skip (LQ.const (.ptr 0 4)) (LP.q bankL))
def zoz : SpecT := zv 1 zr13 1 [.cells 38 7] (fun s => zoy s) default zyi 1 [.cells 38 7]
theorem zsf : zi Tryz.prog 118 (zoz).spec :=
  zf (A := za13) zh13 Facts.mix Tryz.func118 (c := zc13) (by kernel_rfl) (Lc := 1) trivial zr13 1 3 [.cells 38 7] (fun s => zoy s) default zyi 1 [.cells 38 7] [] (by decide) (by kernel_rfl) (by rfl) (by decide) (by decide) (by rfl)
    (by rintro a0; kernel_rfl)
noncomputable def zc14 : Code := Tryz.f119.body.getD .skip
def zv14 : List (List Nat) := [[0], [2]]
noncomputable def zy14 : EnvT := ⟨Tryz.prog, zr []⟩
theorem zh14 : (zy14).Ok := ze trivial
def za14 : Ann := ⟨[], [], [], zv14, []⟩
def zml (a0 : Bank) : Tr (Bank) :=
  (.leaf a0)
def zd4 (a0 : Bank) : Option (Bank) := (zml a0).run
def zr14 : LQ (Bank) := (LQ.skip (LQ.const (.ptr 0 0)) (LP.q bankL))
def zwb : LQ (Bank) := (LQ.skip (LQ.const (.ptr 0 5)) (LP.q bankL))
def zmm : SpecT := zv 1 zr14 1 [.cells 38 7] (fun s => zml s) default zwb 1 [.cells 38 7]
theorem zpu : zi Tryz.prog 119 (zmm).spec :=
  zf (A := za14) zh14 Facts.mix Tryz.func119 (c := zc14) (by kernel_rfl) (Lc := 1) trivial zr14 1 3 [.cells 38 7] (fun s => zml s) default zwb 1 [.cells 38 7] [] (by decide) (by kernel_rfl) (by rfl) (by decide) (by decide) (by rfl)
    (by rintro a0; kernel_rfl)
noncomputable def zc15 : Code := Tryz.f120.body.getD .skip
def zv15 : List (List Nat) := [[0], [2]]
noncomputable def zy15 : EnvT := ⟨Tryz.prog, zr []⟩
theorem zh15 : (zy15).Ok := ze trivial
def za15 : Ann := ⟨[], [], [], zv15, []⟩
def zq2 (a0 : Bank) : Tr (Bank) :=
  (.leaf a0)
def zo0 (a0 : Bank) : Option (Bank) := (zq2 a0).run
def zr15 : LQ (Bank) := (LQ.skip (LQ.const (.ptr 0 0)) (LP.q bankL))
def z0y : LQ (Bank) := (LQ.skip (LQ.const (.ptr 0 6)) (LP.q bankL))
def zwc : SpecT := zv 1 zr15 1 [.cells 38 7] (fun s => zq2 s) default z0y 1 [.cells 38 7]
theorem z0z : zi Tryz.prog 120 (zwc).spec :=
  zf (A := za15) zh15 Facts.mix Tryz.func120 (c := zc15) (by kernel_rfl) (Lc := 1) trivial zr15 1 3 [.cells 38 7] (fun s => zq2 s) default z0y 1 [.cells 38 7] [] (by decide) (by kernel_rfl) (by rfl) (by decide) (by decide) (by rfl)
    (by rintro a0; kernel_rfl)
noncomputable def zc16 : Code := Tryz.f116.body.getD .skip
def zv16 : List (List Nat) := [[1, 2, 3, 4, 8], [1, 2, 3, 4, 8, 10], [8, 9], [1, 2, 3, 4, 8, 20], [8, 9], [2, 3, 4, 8], [4, 8], [8, 9]]
noncomputable def zy16 : EnvT := ⟨Tryz.prog, zr [(50, zjw), (51, zkb), (139, ztx), (118, zoz)]⟩
theorem zh16 : (zy16).Ok := ze ⟨zkc, zjv, zyh, zsf, trivial⟩
def za16 : Ann := ⟨[], [], [], zv16, []⟩
def zo1 (a0 : Bank) (a1 : Int) (a2 : Int) : Tr (Bank × Int × Int) :=
  (.bind (zf1 a0) fun v1 =>
  (.guard (((!v1) = false → ((z9 a1).isSome = true) ∧ True))
  (.ite ((!v1) || (!((z9 a1).getD default)))
    (.leaf (a0, 2, a2))
    (.bind (zi0 a0 a2) fun v2 =>
    (.ite (decide ((v2.2.1.Free.get v2.1) < a1))
      (.leaf (v2.2.1, 7, v2.2.2))
      (.bind (zi0 v2.2.1 v2.2.2) fun v3 =>
      (.bind (ze8 ({ (v3.2.1 : Bank) with Free := (v3.2.1.Free.set v3.1 (IntKind.i64.wrap ((v3.2.1.Free.get v3.1) - a1))) })) fun v4 =>
      (.leaf ({ (v4 : Bank) with Bonded := IntKind.i64.wrap (v4.Bonded + a1) }, 0, v3.2.2)))))))))
def zi1 (a0 : Bank) (a1 : Int) (a2 : Int) : Option (Bank × Int × Int) := (zo1 a0 a1 a2).run
def zr16 : LQ (Bank × Int × Int) := (LQ.seq (Par.q (Par.ofLP bankL)) (LQ.skip (LQ.const (.fn 139 [.ptr 0 0])) (LQ.skip (LQ.const (.fn 118 [])) (LQ.seq (Par.q intP) (Par.q intP)))))
def zyj : LQ (Bank × Int × Int) := (LQ.seq (Par.q (Par.ofLP bankL)) (LQ.seq (Par.q intP) (Par.q intP)))
def z00 : SpecT := zv 1 zr16 4 [.cells 3 1] (fun s => zo1 s.1 s.2.1 s.2.2) default zyj 2 [.cells 3 1]
theorem z7j : zi Tryz.prog 116 (z00).spec :=
  zf (A := za16) zh16 Facts.mix Tryz.func116 (c := zc16) (by kernel_rfl) (Lc := 1) trivial zr16 4 5 [.cells 3 1] (fun s => zo1 s.1 s.2.1 s.2.2) default zyj 2 [.cells 3 1] [] (by decide) (by kernel_rfl) (by rfl) (by decide) (by decide) (by rfl)
    (by rintro ⟨a0, a1, a2⟩; kernel_rfl)
noncomputable def zc17 : Code := Tryz.f116.body.getD .skip
def zv17 : List (List Nat) := [[1, 2, 3, 4, 8], [1, 2, 3, 4, 8, 10], [8, 9], [1, 2, 3, 4, 8, 20], [8, 9], [2, 3, 4, 8], [4, 8], [8, 9]]
noncomputable def zy17 : EnvT := ⟨Tryz.prog, zr [(50, zjw), (51, zkb), (118, zoz), (119, zmm)]⟩
theorem zh17 : (zy17).Ok := ze ⟨zkc, zjv, zsf, zpu, trivial⟩
def za17 : Ann := ⟨[], [], [], zv17, []⟩
def zo2 (a0 : Bank) (a1 : Int) : Tr (Bank × Int) :=
  (.bind (zf1 a0) fun v1 =>
  (.guard (((!v1) = false → ((z9 a1).isSome = true) ∧ True))
  (.ite ((!v1) || (!((z9 a1).getD default)))
    (.leaf (a0, 2))
    (.bind (ze8 a0) fun v2 =>
    (.ite (decide (v2.Bonded < a1))
      (.leaf (v2, 7))
      (.bind (ze8 v2) fun v3 =>
      (.bind (zd4 ({ (v3 : Bank) with Bonded := IntKind.i64.wrap (v3.Bonded - a1) })) fun v4 =>
      (.leaf ({ (v4 : Bank) with Waiting := IntKind.i64.wrap (v4.Waiting + a1) }, 0)))))))))
def zsg (a0 : Bank) (a1 : Int) : Option (Bank × Int) := (zo2 a0 a1).run
def zr17 : LQ (Bank × Int) := (LQ.seq (Par.q (Par.ofLP bankL)) (LQ.skip (LQ.const (.fn 118 [])) (LQ.skip (LQ.const (.fn 119 [])) (Par.q intP))))
def zyk : LQ (Bank × Int) := (LQ.seq (Par.q (Par.ofLP bankL)) (Par.q intP))
def z01 : SpecT := zv 0 zr17 4 [] (fun s => zo2 s.1 s.2) default zyk 2 []
theorem z7k : zi Tryz.prog 116 (z01).spec :=
  zf (A := za17) zh17 Facts.mix Tryz.func116 (c := zc17) (by kernel_rfl) (Lc := 0) trivial zr17 4 4 [] (fun s => zo2 s.1 s.2) default zyk 2 [] [] (by decide) (by kernel_rfl) (by rfl) (by decide) (by decide) (by rfl)
    (by rintro ⟨a0, a1⟩; kernel_rfl)
noncomputable def zc18 : Code := Tryz.f116.body.getD .skip
def zv18 : List (List Nat) := [[1, 2, 3, 4, 8], [1, 2, 3, 4, 8, 10], [8, 9], [1, 2, 3, 4, 8, 20], [8, 9], [2, 3, 4, 8], [4, 8], [8, 9]]
noncomputable def zy18 : EnvT := ⟨Tryz.prog, zr [(50, zjw), (51, zkb), (119, zmm), (139, ztx)]⟩
theorem zh18 : (zy18).Ok := ze ⟨zkc, zjv, zpu, zyh, trivial⟩
def za18 : Ann := ⟨[], [], [], zv18, []⟩
def zo3 (a0 : Bank) (a1 : Int) (a2 : Int) : Tr (Bank × Int × Int) :=
  (.bind (zf1 a0) fun v1 =>
  (.guard (((!v1) = false → ((z9 a1).isSome = true) ∧ True))
  (.ite ((!v1) || (!((z9 a1).getD default)))
    (.leaf (a0, 2, a2))
    (.bind (zd4 a0) fun v2 =>
    (.ite (decide (v2.Waiting < a1))
      (.leaf (v2, 7, a2))
      (.bind (zd4 v2) fun v3 =>
      (.bind (zi0 ({ (v3 : Bank) with Waiting := IntKind.i64.wrap (v3.Waiting - a1) }) a2) fun v4 =>
      (.leaf ({ (v4.2.1 : Bank) with Free := (v4.2.1.Free.set v4.1 (IntKind.i64.wrap ((v4.2.1.Free.get v4.1) + a1))) }, 0, v4.2.2)))))))))
def zi2 (a0 : Bank) (a1 : Int) (a2 : Int) : Option (Bank × Int × Int) := (zo3 a0 a1 a2).run
def zr18 : LQ (Bank × Int × Int) := (LQ.seq (Par.q (Par.ofLP bankL)) (LQ.skip (LQ.const (.fn 119 [])) (LQ.skip (LQ.const (.fn 139 [.ptr 0 0])) (LQ.seq (Par.q intP) (Par.q intP)))))
def zyl : LQ (Bank × Int × Int) := (LQ.seq (Par.q (Par.ofLP bankL)) (LQ.seq (Par.q intP) (Par.q intP)))
def z02 : SpecT := zv 1 zr18 4 [.cells 3 1] (fun s => zo3 s.1 s.2.1 s.2.2) default zyl 2 [.cells 3 1]
theorem z7l : zi Tryz.prog 116 (z02).spec :=
  zf (A := za18) zh18 Facts.mix Tryz.func116 (c := zc18) (by kernel_rfl) (Lc := 1) trivial zr18 4 5 [.cells 3 1] (fun s => zo3 s.1 s.2.1 s.2.2) default zyl 2 [.cells 3 1] [] (by decide) (by kernel_rfl) (by rfl) (by decide) (by decide) (by rfl)
    (by rintro ⟨a0, a1, a2⟩; kernel_rfl)
noncomputable def zc19 : Code := Tryz.f116.body.getD .skip
def zv19 : List (List Nat) := [[1, 2, 3, 4, 8], [1, 2, 3, 4, 8, 10], [8, 9], [1, 2, 3, 4, 8, 20], [8, 9], [2, 3, 4, 8], [4, 8], [8, 9]]
noncomputable def zy19 : EnvT := ⟨Tryz.prog, zr [(50, zjw), (51, zkb), (118, zoz), (120, zwc)]⟩
theorem zh19 : (zy19).Ok := ze ⟨zkc, zjv, zsf, z0z, trivial⟩
def za19 : Ann := ⟨[], [], [], zv19, []⟩
def zo4 (a0 : Bank) (a1 : Int) : Tr (Bank × Int) :=
  (.bind (zf1 a0) fun v1 =>
  (.guard (((!v1) = false → ((z9 a1).isSome = true) ∧ True))
  (.ite ((!v1) || (!((z9 a1).getD default)))
    (.leaf (a0, 2))
    (.bind (ze8 a0) fun v2 =>
    (.ite (decide (v2.Bonded < a1))
      (.leaf (v2, 7))
      (.bind (ze8 v2) fun v3 =>
      (.bind (zo0 ({ (v3 : Bank) with Bonded := IntKind.i64.wrap (v3.Bonded - a1) })) fun v4 =>
      (.leaf ({ (v4 : Bank) with Burnt := IntKind.i64.wrap (v4.Burnt + a1) }, 0)))))))))
def zsh (a0 : Bank) (a1 : Int) : Option (Bank × Int) := (zo4 a0 a1).run
def zr19 : LQ (Bank × Int) := (LQ.seq (Par.q (Par.ofLP bankL)) (LQ.skip (LQ.const (.fn 118 [])) (LQ.skip (LQ.const (.fn 120 [])) (Par.q intP))))
def zym : LQ (Bank × Int) := (LQ.seq (Par.q (Par.ofLP bankL)) (Par.q intP))
def z03 : SpecT := zv 0 zr19 4 [] (fun s => zo4 s.1 s.2) default zym 2 []
theorem z7m : zi Tryz.prog 116 (z03).spec :=
  zf (A := za19) zh19 Facts.mix Tryz.func116 (c := zc19) (by kernel_rfl) (Lc := 0) trivial zr19 4 4 [] (fun s => zo4 s.1 s.2) default zym 2 [] [] (by decide) (by kernel_rfl) (by rfl) (by decide) (by decide) (by rfl)
    (by rintro ⟨a0, a1⟩; kernel_rfl)
noncomputable def zc20 : Code := Tryz.f116.body.getD .skip
def zv20 : List (List Nat) := [[1, 2, 3, 4, 8], [1, 2, 3, 4, 8, 10], [8, 9], [1, 2, 3, 4, 8, 20], [8, 9], [2, 3, 4, 8], [4, 8], [8, 9]]
noncomputable def zy20 : EnvT := ⟨Tryz.prog, zr [(50, zjw), (51, zkb), (119, zmm), (120, zwc)]⟩
theorem zh20 : (zy20).Ok := ze ⟨zkc, zjv, zpu, z0z, trivial⟩
def za20 : Ann := ⟨[], [], [], zv20, []⟩
def zo5 (a0 : Bank) (a1 : Int) : Tr (Bank × Int) :=
  (.bind (zf1 a0) fun v1 =>
  (.guard (((!v1) = false → ((z9 a1).isSome = true) ∧ True))
  (.ite ((!v1) || (!((z9 a1).getD default)))
    (.leaf (a0, 2))
    (.bind (zd4 a0) fun v2 =>
    (.ite (decide (v2.Waiting < a1))
      (.leaf (v2, 7))
      (.bind (zd4 v2) fun v3 =>
      (.bind (zo0 ({ (v3 : Bank) with Waiting := IntKind.i64.wrap (v3.Waiting - a1) })) fun v4 =>
      (.leaf ({ (v4 : Bank) with Burnt := IntKind.i64.wrap (v4.Burnt + a1) }, 0)))))))))
def zsi (a0 : Bank) (a1 : Int) : Option (Bank × Int) := (zo5 a0 a1).run
def zr20 : LQ (Bank × Int) := (LQ.seq (Par.q (Par.ofLP bankL)) (LQ.skip (LQ.const (.fn 119 [])) (LQ.skip (LQ.const (.fn 120 [])) (Par.q intP))))
def zyn : LQ (Bank × Int) := (LQ.seq (Par.q (Par.ofLP bankL)) (Par.q intP))
def z04 : SpecT := zv 0 zr20 4 [] (fun s => zo5 s.1 s.2) default zyn 2 []
theorem z7n : zi Tryz.prog 116 (z04).spec :=
  zf (A := za20) zh20 Facts.mix Tryz.func116 (c := zc20) (by kernel_rfl) (Lc := 0) trivial zr20 4 4 [] (fun s => zo5 s.1 s.2) default zyn 2 [] [] (by decide) (by kernel_rfl) (by rfl) (by decide) (by decide) (by rfl)
    (by rintro ⟨a0, a1⟩; kernel_rfl)
def zpv : SpecT := altT z00 (altT z01 (altT z02 (altT z03 (z04))))
theorem zq3 : zi Tryz.prog 116 (zpv).spec := z9s z7j (z9s z7k (z9s z7l (z9s z7m (z7n))))
noncomputable def zc22 : Code := Tryz.f92.body.getD .skip
def zv22 : List (List Nat) := [[1, 2, 3, 6], [1, 2, 3, 6, 10], [6, 7], [6, 7]]
noncomputable def zy22 : EnvT := ⟨Tryz.prog, zr [(115, zn3), (117, zzx), (116, zpv)]⟩
theorem zh22 : (zy22).Ok := ze ⟨zsw, z20, zq3, trivial⟩
def za22 : Ann := ⟨[], [], [], zv22, []⟩
def zty (a0 : Bank) (a1 : Int) (a2 : Int) : Tr (Bank × Int) :=
  (.bind (zhx a1) fun v1 =>
  (.ite (!v1)
    (.leaf (a0, 4))
    (.guard ((zce a1).isSome = true)
    (.guard ((zi1 a0 a2 ((zce a1).getD default)).isSome = true)
    (.leaf ((((zi1 a0 a2 ((zce a1).getD default)).getD default).1), ((zi1 a0 a2 ((zce a1).getD default)).getD default).2.1))))))
def zq4 (a0 : Bank) (a1 : Int) (a2 : Int) : Option (Bank × Int) := (zty a0 a1 a2).run
def zr22 : LQ (Bank × Int × Int) := (LQ.seq (Par.q (Par.ofLP bankL)) (LQ.seq (Par.q intP) (Par.q intP)))
def z21 : LQ (Bank × Int) := (LQ.seq (Par.q (Par.ofLP bankL)) (Par.q intP))
def z5k : SpecT := zv 0 zr22 3 [] (fun s => zty s.1 s.2.1 s.2.2) default z21 2 []
theorem zab8 : zi Tryz.prog 92 (z5k).spec :=
  zf (A := za22) zh22 Facts.mix Tryz.func92 (c := zc22) (by kernel_rfl) (Lc := 0) trivial zr22 3 5 [] (fun s => zty s.1 s.2.1 s.2.2) default z21 2 [] [] (by decide) (by kernel_rfl) (by rfl) (by decide) (by decide) (by rfl)
    (by rintro ⟨a0, a1, a2⟩; kernel_rfl)
noncomputable def zc23 : Code := Tryz.f93.body.getD .skip
def zv23 : List (List Nat) := [[1, 2, 4], [4, 5]]
noncomputable def zy23 : EnvT := ⟨Tryz.prog, zr [(116, zpv)]⟩
theorem zh23 : (zy23).Ok := ze ⟨zq3, trivial⟩
def za23 : Ann := ⟨[], [], [], zv23, []⟩
def zo6 (a0 : Bank) (a1 : Int) : Tr (Bank × Int) :=
  (.bind (zsg a0 a1) fun v2 =>
  (.leaf (v2.1, v2.2)))
def zi3 (a0 : Bank) (a1 : Int) : Option (Bank × Int) := (zo6 a0 a1).run
def zr23 : LQ (Bank × Int) := (LQ.seq (Par.q (Par.ofLP bankL)) (Par.q intP))
def zyo : LQ (Bank × Int) := (LQ.seq (Par.q (Par.ofLP bankL)) (Par.q intP))
def z05 : SpecT := zv 0 zr23 2 [] (fun s => zo6 s.1 s.2) default zyo 2 []
theorem z7o : zi Tryz.prog 93 (z05).spec :=
  zf (A := za23) zh23 Facts.mix Tryz.func93 (c := zc23) (by kernel_rfl) (Lc := 0) trivial zr23 2 4 [] (fun s => zo6 s.1 s.2) default zyo 2 [] [] (by decide) (by kernel_rfl) (by rfl) (by decide) (by decide) (by rfl)
    (by rintro ⟨a0, a1⟩; kernel_rfl)
noncomputable def zc24 : Code := Tryz.f127.body.getD .skip
def zv24 : List (List Nat) := [[1, 2, 3, 6], [1, 2, 3, 6, 10], [6, 7], [6, 7]]
noncomputable def zy24 : EnvT := ⟨Tryz.prog, zr [(115, zn3), (117, zzx), (116, zpv)]⟩
theorem zh24 : (zy24).Ok := ze ⟨zsw, z20, zq3, trivial⟩
def za24 : Ann := ⟨[], [], [], zv24, []⟩
def zxq (a0 : Bank) (a1 : Int) (a2 : Int) : Tr (Bank × Int) :=
  (.bind (zhx a1) fun v1 =>
  (.ite (!v1)
    (.leaf (a0, 4))
    (.guard ((zce a1).isSome = true)
    (.guard ((zi2 a0 a2 ((zce a1).getD default)).isSome = true)
    (.leaf ((((zi2 a0 a2 ((zce a1).getD default)).getD default).1), ((zi2 a0 a2 ((zce a1).getD default)).getD default).2.1))))))
def zzy (a0 : Bank) (a1 : Int) (a2 : Int) : Option (Bank × Int) := (zxq a0 a1 a2).run
def zr24 : LQ (Bank × Int × Int) := (LQ.seq (Par.q (Par.ofLP bankL)) (LQ.seq (Par.q intP) (Par.q intP)))
def z5l : LQ (Bank × Int) := (LQ.seq (Par.q (Par.ofLP bankL)) (Par.q intP))
def z8i : SpecT := zv 0 zr24 3 [] (fun s => zxq s.1 s.2.1 s.2.2) default z5l 2 []
theorem zaem : zi Tryz.prog 127 (z8i).spec :=
  zf (A := za24) zh24 Facts.mix Tryz.func127 (c := zc24) (by kernel_rfl) (Lc := 0) trivial zr24 3 5 [] (fun s => zxq s.1 s.2.1 s.2.2) default z5l 2 [] [] (by decide) (by kernel_rfl) (by rfl) (by decide) (by decide) (by rfl)
    (by rintro ⟨a0, a1, a2⟩; kernel_rfl)
noncomputable def zc25 : Code := Tryz.f96.body.getD .skip
def zv25 : List (List Nat) := [[1, 2, 3, 6], [2, 3, 6, 8, 9], [2, 3, 6, 8, 9, 17], [6, 7], [3, 6, 8, 9], [3, 6, 8, 9, 27], [6, 7], [6, 7]]
noncomputable def zy25 : EnvT := ⟨Tryz.prog, zr [(116, zpv)]⟩
theorem zh25 : (zy25).Ok := ze ⟨zq3, trivial⟩
def za25 : Ann := ⟨[], [], [], zv25, []⟩
def ztz (a0 : Bank) (a1 : Int) (a2 : Int) : Tr (Bank × Int) :=
  (.bind (zsh a0 a1) fun v4 =>
  (.ite (v4.2 != 0)
    (.leaf (a0, v4.2))
    (.bind (zsi v4.1 a2) fun v9 =>
    (.ite (v9.2 != 0)
      (.leaf (a0, v9.2))
      (.leaf (v9.1, 0))))))
def zwd (a0 : Bank) (a1 : Int) (a2 : Int) : Option (Bank × Int) := (ztz a0 a1 a2).run
def zr25 : LQ (Bank × Int × Int) := (LQ.seq (Par.q (Par.ofLP bankL)) (LQ.seq (Par.q intP) (Par.q intP)))
def z22 : LQ (Bank × Int) := (LQ.seq (Par.q (Par.ofLP bankL)) (Par.q intP))
def z5m : SpecT := zv 0 zr25 3 [] (fun s => ztz s.1 s.2.1 s.2.2) default z22 2 []
theorem zab9 : zi Tryz.prog 96 (z5m).spec :=
  zf (A := za25) zh25 Facts.mix Tryz.func96 (c := zc25) (by kernel_rfl) (Lc := 0) trivial zr25 3 5 [] (fun s => ztz s.1 s.2.1 s.2.2) default z22 2 [] [] (by decide) (by kernel_rfl) (by rfl) (by decide) (by decide) (by rfl)
    (by rintro ⟨a0, a1, a2⟩; kernel_rfl)
noncomputable def zc26 : Code := Tryz.f32.body.getD .skip
def zv26 : List (List Nat) := [[0], [2]]
noncomputable def zy26 : EnvT := ⟨Tryz.prog, zr []⟩
theorem zh26 : (zy26).Ok := ze trivial
def za26 : Ann := ⟨[], [], [], zv26, []⟩
def zhy (a0 : Int) : Tr (Int) :=
  (.guard ((5 : Int) ≠ 0)
  (.leaf (if (IntKind.i64.wrap (Int.tdiv a0 5)) > 1 then (IntKind.i64.wrap (Int.tdiv a0 5)) else 1)))
def zkn (a0 : Int) : Option (Int) := (zhy a0).run
def zr26 : LQ (Int) := (Par.q intP)
def zq5 : LQ (Int) := (Par.q intP)
def zsx : SpecT := zv 0 zr26 1 [] (fun s => zhy s) default zq5 1 []
theorem z06 : zi Tryz.prog 32 (zsx).spec :=
  zf (A := za26) zh26 Facts.mix Tryz.func32 (c := zc26) (by kernel_rfl) (Lc := 0) trivial zr26 1 2 [] (fun s => zhy s) default zq5 1 [] [] (by decide) (by kernel_rfl) (by rfl) (by decide) (by decide) (by rfl)
    (by rintro a0; kernel_rfl)
noncomputable def zc27 : Code := Tryz.f67.body.getD .skip
def zv27 : List (List Nat) := [[0, 1, 4], [4]]
noncomputable def zy27 : EnvT := ⟨Tryz.prog, zr [(32, zsx)]⟩
theorem zh27 : (zy27).Ok := ze ⟨z06, trivial⟩
def za27 : Ann := ⟨[], [], [], zv27, []⟩
def zt0 (a0 : Int) (a1 : Int) : Tr (Meter) :=
  (.bind (zkn a0) fun v1 =>
  (.leaf (⟨v1, IntKind.i64.wrap (a1 + 10)⟩ : Meter)))
def zq6 (a0 : Int) (a1 : Int) : Option (Meter) := (zt0 a0 a1).run
def zr27 : LQ (Int × Int) := (LQ.seq (Par.q intP) (Par.q intP))
def z23 : LQ (Meter) := (Par.q (Par.ofLP meterL))
def zzz : SpecT := zv 0 zr27 2 [] (fun s => zt0 s.1 s.2) default z23 1 []
theorem z24 : zi Tryz.prog 67 (zzz).spec :=
  zf (A := za27) zh27 Facts.mix Tryz.func67 (c := zc27) (by kernel_rfl) (Lc := 0) trivial zr27 2 3 [] (fun s => zt0 s.1 s.2) default z23 1 [] [] (by decide) (by kernel_rfl) (by rfl) (by decide) (by decide) (by rfl)
    (by rintro ⟨a0, a1⟩; kernel_rfl)
noncomputable def zc28 : Code := Tryz.f97.body.getD .skip
def zv28 : List (List Nat) := [[1, 2, 3, 6], [1, 2, 3, 6, 10], [6], [6]]
noncomputable def zy28 : EnvT := ⟨Tryz.prog, zr [(67, zzz)]⟩
theorem zh28 : (zy28).Ok := ze ⟨z24, trivial⟩
def za28 : Ann := ⟨[], [], [], zv28, []⟩
def zq7 (a0 : Meter) (a1 : Int) (a2 : Int) : Tr (Meter) :=
  (.ite (decide (a2 ≥ a0.Next))
    (.bind (zq6 a1 a2) fun v1 =>
    (.leaf v1))
    (.leaf a0))
def zo7 (a0 : Meter) (a1 : Int) (a2 : Int) : Option (Meter) := (zq7 a0 a1 a2).run
def zr28 : LQ (Meter × Int × Int) := (LQ.seq (Par.q (Par.ofLP meterL)) (LQ.seq (Par.q intP) (Par.q intP)))
def z07 : LQ (Meter) := (Par.q (Par.ofLP meterL))
def z25 : SpecT := zv 0 zr28 3 [] (fun s => zq7 s.1 s.2.1 s.2.2) default z07 1 []
theorem zaab : zi Tryz.prog 97 (z25).spec :=
  zf (A := za28) zh28 Facts.mix Tryz.func97 (c := zc28) (by kernel_rfl) (Lc := 0) trivial zr28 3 4 [] (fun s => zq7 s.1 s.2.1 s.2.2) default z07 1 [] [] (by decide) (by kernel_rfl) (by rfl) (by decide) (by decide) (by rfl)
    (by rintro ⟨a0, a1, a2⟩; kernel_rfl)
noncomputable def zc29 : Code := Tryz.f122.body.getD .skip
def zv29 : List (List Nat) := [[1, 2, 4], [1, 2, 4, 8], [4, 5], [2, 4], [4, 5]]
noncomputable def zy29 : EnvT := ⟨Tryz.prog, zr []⟩
theorem zh29 : (zy29).Ok := ze trivial
def za29 : Ann := ⟨[], [], [], zv29, []⟩
def zq8 (a0 : Meter) (a1 : Int) : Tr (Meter × Bool) :=
  (.ite (decide (a0.Left ≤ 0))
    (.leaf (a0, false))
    (.leaf ((⟨IntKind.i64.wrap (a0.Left - a1), a0.Next⟩ : Meter), true)))
def zhz (a0 : Meter) (a1 : Int) : Option (Meter × Bool) := (zq8 a0 a1).run
def zr29 : LQ (Meter × Int) := (LQ.seq (Par.q (Par.ofLP meterL)) (Par.q intP))
def z08 : LQ (Meter × Bool) := (LQ.seq (Par.q (Par.ofLP meterL)) (Par.q boolP))
def z27 : SpecT := zv 0 zr29 2 [] (fun s => zq8 s.1 s.2) default z08 2 []
theorem zaac : zi Tryz.prog 122 (z27).spec :=
  zf (A := za29) zh29 Facts.mix Tryz.func122 (c := zc29) (by kernel_rfl) (Lc := 0) trivial zr29 2 4 [] (fun s => zq8 s.1 s.2) default z08 2 [] [] (by decide) (by kernel_rfl) (by rfl) (by decide) (by decide) (by rfl)
    (by rintro ⟨a0, a1⟩; kernel_rfl)
end
end Go.Proofs.YtmakmlnfbdablaaGreat.Ab
