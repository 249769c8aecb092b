/-
  The functions, each by its tree.
-/
import Derived.Test.YtmakmlnfbdablaaGreatXAbFun
import Derived.Test.YtmakmlnfbdablaaGreatXAbStructs
import Derived.Test.YtmakmlnfbdablaaGreatXFRatio
import Derived.Test.YtmakmlnfbdablaaGreatXFacts
namespace Go.Proofs.YtmakmlnfbdablaaGreat.Ab
open Go Go.RowKit
set_option maxRecDepth 100000
set_option linter.unusedVariables false
set_option linter.unusedSimpArgs false
noncomputable section
noncomputable def zc7 : Code := Tryz.f89.body.getD .skip
def zv7 : List (List Nat) := [[0], [0, 1], [0, 1, 3], [0, 1, 3, 4], [0, 1, 2, 3], [0, 1, 3], [0, 1, 3], [0]]
noncomputable def zy7 : EnvT := ⟨Tryz.prog, zq []⟩
theorem zh7 : (zy7).Ok := zc trivial
def zfp (x0 : Int) (x1 : Bank) (x2 : Bank) : Tr ((Int × Bank × Bank) ⊕ (Bank × Bank)) :=
  (.ite (decide (x0 < 4))
    (.guard ((0 : Int) ≤ x0 ∧ (x0 : Int) < 4)
    (.leaf (.inl (IntKind.i64.wrap (x0 + 1), x1, { (x2 : Bank) with Free := (x2.Free.set x0 100000) }))))
    (.leaf (.inr (x1, x2))))
def zrb (x0 : Int) (x1 : Bank) (x2 : Bank) : Option (Bank × Bank) := zel (fun s : Int × Bank × Bank => (zfp s.1 s.2.1 s.2.2).run) (x0, x1, x2)
def za7a : Ann := ⟨[], [], [], zv7, []⟩
def zq7a : EndD (Int × Bank × Bank) := ⟨(LQ.skip (LQ.const (.ptr 0 0)) (LQ.skip (LQ.const (.ptr 1 0)) (LQ.seq (Par.q intP) (LQ.seq (LP.q bankL) (LP.q bankL))))), ⟨[0, 1, 3], []⟩, [.cells 38 7, .cells 38 7]⟩
def zasv : EndD (Bank × Bank) := ⟨(LQ.skip (LQ.const (.ptr 0 0)) (LQ.skip (LQ.const (.ptr 1 0)) (LQ.seq (LP.q bankL) (LP.q bankL)))), ⟨[0, 1], []⟩, [.cells 38 7, .cells 38 7]⟩
def zl7a : St → Option LR := L1 11 4 0 zq7a (.exit 0) zasv (fun s => zfp s.1 s.2.1 s.2.2)
theorem zk7a : zu (zy7).env 0 (sub zc7 [0, 1, 0, 1, 1]) zl7a :=
  zjd (A := za7a) zh7 Facts.mix trivial (k := zcw (sub zc7 [0, 1, 0, 1, 1])) (by kernel_rfl) rfl (by rintro ⟨x0, x1, x2⟩; kernel_rfl)
def za7 : Ann := ⟨[([0, 1, 0, 1, 1], zl7a)], [], [], zv7, []⟩
def zwl  : Tr (Bank) :=
  (.bind (zrb 0 (⟨(⟨0, 0, 0, 0⟩ : (A4 Int)), 0, 0, 0⟩ : Bank) (⟨(⟨0, 0, 0, 0⟩ : (A4 Int)), 0, 0, 0⟩ : Bank)) fun v1 =>
  (.leaf v1.2))
def zyj  : Option (Bank) := (zwl ).run
def zr7 : LQ (Unit) := LQ.nil
def z36 : LQ (Bank) := (Par.q (Par.ofLP bankL))
def z68 : SpecT := zt 0 zr7 0 [] (fun s => zwl ) default z36 1 []
theorem zacy : zg Tryz.prog 89 (z68).spec :=
  zd (A := za7) zh7 Facts.mix Tryz.func89 (c := zc7) (by kernel_rfl) (Lc := 0) ⟨zk7a, trivial⟩ zr7 0 4 [] (fun s => zwl ) default z36 1 [] [] (by decide) (by kernel_rfl) (by rfl) (by decide) (by decide) (by rfl)
    (by rintro _; kernel_rfl)
noncomputable def zc8 : Code := Tryz.f20.body.getD .skip
def zv8 : List (List Nat) := [[1], [1, 3], [3, 15, 16], [3, 15, 16, 17], [3, 5, 15, 16], [3, 15, 16], [3, 15, 16], [2]]
noncomputable def zy8 : EnvT := ⟨Tryz.prog, zq []⟩
theorem zh8 : (zy8).Ok := zc trivial
def zfq (x0 : Int) (x1 : (A4 Int)) (x2 : Int) : Tr ((Int × (A4 Int) × Int) ⊕ (Int)) :=
  (.ite (decide (x2 < 4))
    (.guard ((0 : Int) ≤ x2 ∧ (x2 : Int) < 4)
    (.leaf (.inl (IntKind.i64.wrap (x0 + (x1.get x2)), x1, IntKind.i64.wrap (x2 + 1)))))
    (.leaf (.inr x0)))
def zrc (x0 : Int) (x1 : (A4 Int)) (x2 : Int) : Option (Int) := zel (fun s : Int × (A4 Int) × Int => (zfq s.1 s.2.1 s.2.2).run) (x0, x1, x2)
def za8a : Ann := ⟨[], [], [], zv8, []⟩
def zq8a : EndD (Int × (A4 Int) × Int) := ⟨(LQ.seq (Par.q intP) (LQ.seq (Par.q (Par.ofLP (a4L (LP.one intP)))) (Par.q intP))), ⟨[3, 15, 16], []⟩, []⟩
def zasw : EndD (Int) := ⟨(Par.q intP), ⟨[3], []⟩, []⟩
def zl8a : St → Option LR := L1 24 3 0 zq8a (.exit 0) zasw (fun s => zfq s.1 s.2.1 s.2.2)
theorem zk8a : zu (zy8).env 0 (sub zc8 [0, 1, 0, 1, 1]) zl8a :=
  zjd (A := za8a) zh8 Facts.mix trivial (k := zcw (sub zc8 [0, 1, 0, 1, 1])) (by kernel_rfl) rfl (by rintro ⟨x0, x1, x2⟩; kernel_rfl)
def za8 : Ann := ⟨[([0, 1, 0, 1, 1], zl8a)], [], [], zv8, []⟩
def zwm (a0 : Bank) : Tr (Int) :=
  (.bind (zrc (IntKind.i64.wrap ((IntKind.i64.wrap (a0.Bonded + a0.Waiting)) + a0.Burnt)) a0.Free 0) fun v1 =>
  (.leaf v1))
def zo1 (a0 : Bank) : Option (Int) := (zwm a0).run
def zr8 : LQ (Bank) := (Par.q (Par.ofLP bankL))
def z37 : LQ (Int) := (Par.q intP)
def z1b : SpecT := zt 0 zr8 1 [] (fun s => zwm s) default z37 1 []
theorem z39 : zg Tryz.prog 20 (z1b).spec :=
  zd (A := za8) zh8 Facts.mix Tryz.func20 (c := zc8) (by kernel_rfl) (Lc := 0) ⟨zk8a, trivial⟩ zr8 1 3 [] (fun s => zwm s) default z37 1 [] [] (by decide) (by kernel_rfl) (by rfl) (by decide) (by decide) (by rfl)
    (by rintro a0; kernel_rfl)
noncomputable def zc9 : Code := Tryz.f50.body.getD .skip
def zv9 : List (List Nat) := [[1], [1, 14, 15, 16], [1, 14, 15, 16, 17], [1, 4, 14, 15, 16], [1, 14, 15, 16, 25], [2], [1, 14, 15, 16], [2]]
noncomputable def zy9 : EnvT := ⟨Tryz.prog, zq [(20, z1b)]⟩
theorem zh9 : (zy9).Ok := zc ⟨z39, trivial⟩
def zig (x0 : Int) (x1 : Int) (x2 : Bank) (x3 : (List Int)) : Tr ((Int × Int × Bank × (List Int)) ⊕ ((Bool) ⊕ (Bank))) :=
  (.ite (decide (x1 < x0))
    (.guard ((0 : Int) ≤ x1 ∧ x1 < ((Sl.len (.ints x3) : Nat) : Int))
    (.ite ((decide ((x3.getD x1.toNat 0) < 0)) || (decide ((x3.getD x1.toNat 0) > 400000)))
      (.leaf (.inr (.inl false)))
      (.leaf (.inl (x0, IntKind.i64.wrap (x1 + 1), x2, x3)))))
    (.leaf (.inr (.inr x2))))
def zuy (x0 : Int) (x1 : Int) (x2 : Bank) (x3 : (List Int)) : Option ((Bool) ⊕ (Bank)) := zel (fun s : Int × Int × Bank × (List Int) => (zig s.1 s.2.1 s.2.2.1 s.2.2.2).run) (x0, x1, x2, x3)
def za9a : Ann := ⟨[], [], [], zv9, []⟩
def zq9a : EndD (Int × Int × Bank × (List Int)) := ⟨(LQ.skip (LQ.const (.ptr 0 0)) (LQ.skip (LQ.const (.own 1)) (LQ.seq (Par.q intP) (LQ.seq (Par.q intP) (LQ.seq (LP.q bankL) (Par.q zgz)))))), ⟨[1, 14, 15, 16], [.nilown 14 3 (.ints [])]⟩, [.cells 38 7, .rows 3]⟩
def zasx : EndD (Bool) := ⟨(Par.q boolP), ⟨[2], []⟩, []⟩
def zasy : EndD (Bank) := ⟨(LQ.skip (LQ.const (.ptr 0 0)) (LP.q bankL)), ⟨[1], []⟩, [.cells 38 7]⟩
def zl9a : St → Option LR := L2 30 5 0 zq9a .ret zasx (.exit 0) zasy (fun s => zig s.1 s.2.1 s.2.2.1 s.2.2.2)
theorem zk9a : zu (zy9).env 0 (sub zc9 [0, 1, 0, 1]) zl9a :=
  zra (A := za9a) zh9 Facts.mix trivial (k := zcw (sub zc9 [0, 1, 0, 1])) (by kernel_rfl) rfl rfl (by rintro ⟨x0, x1, x2, x3⟩; kernel_rfl)
def za9 : Ann := ⟨[([0, 1, 0, 1], zl9a)], [], [], zv9, []⟩
def zs5 (a0 : Bank) : Tr (Bool) :=
  (.guard ((Sl.len (.ints [a0.Free.x0, a0.Free.x1, a0.Free.x2, a0.Free.x3]) + Sl.len (.ints [a0.Bonded, a0.Waiting, a0.Burnt])) * 8 ≤ 140737488355328)
  (.guard (0 < Sl.len (.ints [a0.Bonded, a0.Waiting, a0.Burnt]))
  (.two (zuy ((([a0.Free.x0, a0.Free.x1, a0.Free.x2, a0.Free.x3] ++ [a0.Bonded, a0.Waiting, a0.Burnt]).length : Nat) : Int) 0 a0 ([a0.Free.x0, a0.Free.x1, a0.Free.x2, a0.Free.x3] ++ [a0.Bonded, a0.Waiting, a0.Burnt])) (fun v1 =>
    (.leaf v1)) (fun v2 =>
    (.bind (zo1 v2) fun v3 =>
    (.leaf (v3 == 400000)))))))
def zfg (a0 : Bank) : Option (Bool) := (zs5 a0).run
def zr9 : LQ (Bank) := (Par.q (Par.ofLP bankL))
def z1y : LQ (Bool) := (Par.q boolP)
def zjf : SpecT := zt 0 zr9 1 [] (fun s => zs5 s) default z1y 1 []
theorem zjr : zg Tryz.prog 50 (zjf).spec :=
  zd (A := za9) zh9 Facts.mix Tryz.func50 (c := zc9) (by kernel_rfl) (Lc := 0) ⟨zk9a, trivial⟩ zr9 1 5 [] (fun s => zs5 s) default z1y 1 [] [] (by decide) (by kernel_rfl) (by rfl) (by decide) (by decide) (by rfl)
    (by rintro a0; kernel_rfl)
noncomputable def zc10 : Code := Tryz.f115.body.getD .skip
def zv10 : List (List Nat) := [[0], [2]]
noncomputable def zy10 : EnvT := ⟨Tryz.prog, zq []⟩
theorem zh10 : (zy10).Ok := zc trivial
def za10 : Ann := ⟨[], [], [], zv10, []⟩
def zf2 (a0 : Int) : Tr (Bool) :=
  (.leaf ((decide (a0 ≥ 0)) && (decide (a0 < 4))))
def zhh (a0 : Int) : Option (Bool) := (zf2 a0).run
def zr10 : LQ (Int) := (Par.q intP)
def zru : LQ (Bool) := (Par.q boolP)
def znc : SpecT := zt 0 zr10 1 [] (fun s => zf2 s) default zru 1 []
theorem zrv : zg Tryz.prog 115 (znc).spec :=
  zd (A := za10) zh10 Facts.mix Tryz.func115 (c := zc10) (by kernel_rfl) (Lc := 0) trivial zr10 1 2 [] (fun s => zf2 s) default zru 1 [] [] (by decide) (by kernel_rfl) (by rfl) (by decide) (by decide) (by rfl)
    (by rintro a0; kernel_rfl)
noncomputable def zc11 : Code := Tryz.f139.body.getD .skip
def zv11 : List (List Nat) := [[0, 1], [3]]
noncomputable def zy11 : EnvT := ⟨Tryz.prog, zq []⟩
theorem zh11 : (zy11).Ok := zc trivial
def za11 : Ann := ⟨[], [], [], zv11, []⟩
def zn3 (a0 : Bank) (a1 : Int) : Tr (Int × Bank × Int) :=
  (.guard ((0 : Int) ≤ a1 ∧ (a1 : Int) < 4)
  (.leaf (a1, a0, a1)))
def zih (a0 : Bank) (a1 : Int) : Option (Int × Bank × Int) := (zn3 a0 a1).run
def zr11 : LQ (Bank × Int) := (LQ.skip (LQ.const (.ptr 0 0)) (LQ.skip (LQ.const (.ptr 1 0)) (LQ.seq (LP.q bankL) (Par.q intP))))
def zxc : LQ (Int × Bank × Int) := (LQ.seq (LQ.pix1 0 0 4 1 0) (LQ.seq (LP.q bankL) (Par.q intP)))
def zs6 : SpecT := zt 2 zr11 2 [.cells 38 7, .cells 3 1] (fun s => zn3 s.1 s.2) default zxc 1 [.cells 38 7, .cells 3 1]
theorem zxd : zg Tryz.prog 139 (zs6).spec :=
  zd (A := za11) zh11 Facts.mix Tryz.func139 (c := zc11) (by kernel_rfl) (Lc := 2) trivial zr11 2 4 [.cells 38 7, .cells 3 1] (fun s => zn3 s.1 s.2) default zxc 1 [.cells 38 7, .cells 3 1] [] (by decide) (by kernel_rfl) (by rfl) (by decide) (by decide) (by rfl)
    (by rintro ⟨a0, a1⟩; kernel_rfl)
noncomputable def zc12 : Code := Tryz.f117.body.getD .skip
def zv12 : List (List Nat) := [[1], [2]]
noncomputable def zy12 : EnvT := ⟨Tryz.prog, zq []⟩
theorem zh12 : (zy12).Ok := zc trivial
def za12 : Ann := ⟨[], [], [], zv12, []⟩
def zo2 (a0 : Int) : Tr (Int) :=
  (.leaf a0)
def zb9 (a0 : Int) : Option (Int) := (zo2 a0).run
def zr12 : LQ (Int) := (Par.q intP)
def z1z : LQ (Int) := (LQ.skip (LQ.const (.fn 139 [.ptr 0 0])) (Par.q intP))
def zyk : SpecT := zt 0 zr12 1 [] (fun s => zo2 s) default z1z 1 [.cells 3 1]
theorem z10 : zg Tryz.prog 117 (zyk).spec :=
  zd (A := za12) zh12 Facts.mix Tryz.func117 (c := zc12) (by kernel_rfl) (Lc := 0) trivial zr12 1 3 [] (fun s => zo2 s) default z1z 1 [.cells 3 1] [] (by decide) (by kernel_rfl) (by rfl) (by decide) (by decide) (by rfl)
    (by rintro a0; kernel_rfl)
noncomputable def zc13 : Code := Tryz.f118.body.getD .skip
def zv13 : List (List Nat) := [[0], [2]]
noncomputable def zy13 : EnvT := ⟨Tryz.prog, zq []⟩
theorem zh13 : (zy13).Ok := zc trivial
def za13 : Ann := ⟨[], [], [], zv13, []⟩
def zn4 (a0 : Bank) : Tr (Bank) :=
  (.leaf a0)
def zen (a0 : Bank) : Option (Bank) := (zn4 a0).run
def zr13 : LQ (Bank) := (LQ.skip (LQ.const (.ptr 0 0)) (LP.q bankL))
def zxe : LQ (Bank) := (LQ.skip (LQ.const (.ptr 0 4)) (LP.q bankL))
def zn5 : SpecT := zt 1 zr13 1 [.cells 38 7] (fun s => zn4 s) default zxe 1 [.cells 38 7]
theorem zrd : zg Tryz.prog 118 (zn5).spec :=
  zd (A := za13) zh13 Facts.mix Tryz.func118 (c := zc13) (by kernel_rfl) (Lc := 1) trivial zr13 1 3 [.cells 38 7] (fun s => zn4 s) default zxe 1 [.cells 38 7] [] (by decide) (by kernel_rfl) (by rfl) (by decide) (by decide) (by rfl)
    (by rintro a0; kernel_rfl)
noncomputable def zc14 : Code := Tryz.f119.body.getD .skip
def zv14 : List (List Nat) := [[0], [2]]
noncomputable def zy14 : EnvT := ⟨Tryz.prog, zq []⟩
theorem zh14 : (zy14).Ok := zc trivial
def za14 : Ann := ⟨[], [], [], zv14, []⟩
def zlw (a0 : Bank) : Tr (Bank) :=
  (.leaf a0)
def zds (a0 : Bank) : Option (Bank) := (zlw a0).run
def zr14 : LQ (Bank) := (LQ.skip (LQ.const (.ptr 0 0)) (LP.q bankL))
def zuz : LQ (Bank) := (LQ.skip (LQ.const (.ptr 0 5)) (LP.q bankL))
def zlx : SpecT := zt 1 zr14 1 [.cells 38 7] (fun s => zlw s) default zuz 1 [.cells 38 7]
theorem zo3 : zg Tryz.prog 119 (zlx).spec :=
  zd (A := za14) zh14 Facts.mix Tryz.func119 (c := zc14) (by kernel_rfl) (Lc := 1) trivial zr14 1 3 [.cells 38 7] (fun s => zlw s) default zuz 1 [.cells 38 7] [] (by decide) (by kernel_rfl) (by rfl) (by decide) (by decide) (by rfl)
    (by rintro a0; kernel_rfl)
noncomputable def zc15 : Code := Tryz.f120.body.getD .skip
def zv15 : List (List Nat) := [[0], [2]]
noncomputable def zy15 : EnvT := ⟨Tryz.prog, zq []⟩
theorem zh15 : (zy15).Ok := zc trivial
def za15 : Ann := ⟨[], [], [], zv15, []⟩
def zqd (a0 : Bank) : Tr (Bank) :=
  (.leaf a0)
def zn6 (a0 : Bank) : Option (Bank) := (zqd a0).run
def zr15 : LQ (Bank) := (LQ.skip (LQ.const (.ptr 0 0)) (LP.q bankL))
def zzx : LQ (Bank) := (LQ.skip (LQ.const (.ptr 0 6)) (LP.q bankL))
def zu0 : SpecT := zt 1 zr15 1 [.cells 38 7] (fun s => zqd s) default zzx 1 [.cells 38 7]
theorem zzy : zg Tryz.prog 120 (zu0).spec :=
  zd (A := za15) zh15 Facts.mix Tryz.func120 (c := zc15) (by kernel_rfl) (Lc := 1) trivial zr15 1 3 [.cells 38 7] (fun s => zqd s) default zzx 1 [.cells 38 7] [] (by decide) (by kernel_rfl) (by rfl) (by decide) (by decide) (by rfl)
    (by rintro a0; kernel_rfl)
noncomputable def zc16 : Code := Tryz.f116.body.getD .skip
def zv16 : List (List Nat) := [[1, 2, 3, 4, 8], [1, 2, 3, 4, 8, 10], [8, 9], [1, 2, 3, 4, 8, 20], [8, 9], [2, 3, 4, 8], [4, 8], [8, 9]]
noncomputable def zy16 : EnvT := ⟨Tryz.prog, zq [(50, zjf), (51, zjq), (139, zs6), (118, zn5)]⟩
theorem zh16 : (zy16).Ok := zc ⟨zjr, zje, zxd, zrd, trivial⟩
def za16 : Ann := ⟨[], [], [], zv16, []⟩
def zn7 (a0 : Bank) (a1 : Int) (a2 : Int) : Tr (Bank × Int × Int) :=
  (.bind (zfg a0) fun v1 =>
  (.guard (((!v1) = false → ((z8 a1).isSome = true) ∧ True))
  (.ite ((!v1) || (!((z8 a1).getD default)))
    (.leaf (a0, 2, a2))
    (.bind (zih a0 a2) fun v2 =>
    (.ite (decide ((v2.2.1.Free.get v2.1) < a1))
      (.leaf (v2.2.1, 7, v2.2.2))
      (.bind (zih v2.2.1 v2.2.2) fun v3 =>
      (.bind (zen ({ (v3.2.1 : Bank) with Free := (v3.2.1.Free.set v3.1 (IntKind.i64.wrap ((v3.2.1.Free.get v3.1) - a1))) })) fun v4 =>
      (.leaf ({ (v4 : Bank) with Bonded := IntKind.i64.wrap (v4.Bonded + a1) }, 0, v3.2.2)))))))))
def zii (a0 : Bank) (a1 : Int) (a2 : Int) : Option (Bank × Int × Int) := (zn7 a0 a1 a2).run
def zr16 : LQ (Bank × Int × Int) := (LQ.seq (Par.q (Par.ofLP bankL)) (LQ.skip (LQ.const (.fn 139 [.ptr 0 0])) (LQ.skip (LQ.const (.fn 118 [])) (LQ.seq (Par.q intP) (Par.q intP)))))
def zxf : LQ (Bank × Int × Int) := (LQ.seq (Par.q (Par.ofLP bankL)) (LQ.seq (Par.q intP) (Par.q intP)))
def zzz : SpecT := zt 1 zr16 4 [.cells 3 1] (fun s => zn7 s.1 s.2.1 s.2.2) default zxf 2 [.cells 3 1]
theorem z6c : zg Tryz.prog 116 (zzz).spec :=
  zd (A := za16) zh16 Facts.mix Tryz.func116 (c := zc16) (by kernel_rfl) (Lc := 1) trivial zr16 4 5 [.cells 3 1] (fun s => zn7 s.1 s.2.1 s.2.2) default zxf 2 [.cells 3 1] [] (by decide) (by kernel_rfl) (by rfl) (by decide) (by decide) (by rfl)
    (by rintro ⟨a0, a1, a2⟩; kernel_rfl)
noncomputable def zc17 : Code := Tryz.f116.body.getD .skip
def zv17 : List (List Nat) := [[1, 2, 3, 4, 8], [1, 2, 3, 4, 8, 10], [8, 9], [1, 2, 3, 4, 8, 20], [8, 9], [2, 3, 4, 8], [4, 8], [8, 9]]
noncomputable def zy17 : EnvT := ⟨Tryz.prog, zq [(50, zjf), (51, zjq), (118, zn5), (119, zlx)]⟩
theorem zh17 : (zy17).Ok := zc ⟨zjr, zje, zrd, zo3, trivial⟩
def za17 : Ann := ⟨[], [], [], zv17, []⟩
def zn8 (a0 : Bank) (a1 : Int) : Tr (Bank × Int) :=
  (.bind (zfg a0) fun v1 =>
  (.guard (((!v1) = false → ((z8 a1).isSome = true) ∧ True))
  (.ite ((!v1) || (!((z8 a1).getD default)))
    (.leaf (a0, 2))
    (.bind (zen a0) fun v2 =>
    (.ite (decide (v2.Bonded < a1))
      (.leaf (v2, 7))
      (.bind (zen v2) fun v3 =>
      (.bind (zds ({ (v3 : Bank) with Bonded := IntKind.i64.wrap (v3.Bonded - a1) })) fun v4 =>
      (.leaf ({ (v4 : Bank) with Waiting := IntKind.i64.wrap (v4.Waiting + a1) }, 0)))))))))
def zre (a0 : Bank) (a1 : Int) : Option (Bank × Int) := (zn8 a0 a1).run
def zr17 : LQ (Bank × Int) := (LQ.seq (Par.q (Par.ofLP bankL)) (LQ.skip (LQ.const (.fn 118 [])) (LQ.skip (LQ.const (.fn 119 [])) (Par.q intP))))
def zxg : LQ (Bank × Int) := (LQ.seq (Par.q (Par.ofLP bankL)) (Par.q intP))
def zz0 : SpecT := zt 0 zr17 4 [] (fun s => zn8 s.1 s.2) default zxg 2 []
theorem z6d : zg Tryz.prog 116 (zz0).spec :=
  zd (A := za17) zh17 Facts.mix Tryz.func116 (c := zc17) (by kernel_rfl) (Lc := 0) trivial zr17 4 4 [] (fun s => zn8 s.1 s.2) default zxg 2 [] [] (by decide) (by kernel_rfl) (by rfl) (by decide) (by decide) (by rfl)
    (by rintro ⟨a0, a1⟩; kernel_rfl)
noncomputable def zc18 : Code := Tryz.f116.body.getD .skip
def zv18 : List (List Nat) := [[1, 2, 3, 4, 8], [1, 2, 3, 4, 8, 10], [8, 9], [1, 2, 3, 4, 8, 20], [8, 9], [2, 3, 4, 8], [4, 8], [8, 9]]
noncomputable def zy18 : EnvT := ⟨Tryz.prog, zq [(50, zjf), (51, zjq), (119, zlx), (139, zs6)]⟩
theorem zh18 : (zy18).Ok := zc ⟨zjr, zje, zo3, zxd, trivial⟩
def za18 : Ann := ⟨[], [], [], zv18, []⟩
def zn9 (a0 : Bank) (a1 : Int) (a2 : Int) : Tr (Bank × Int × Int) :=
  (.bind (zfg a0) fun v1 =>
  (.guard (((!v1) = false → ((z8 a1).isSome = true) ∧ True))
  (.ite ((!v1) || (!((z8 a1).getD default)))
    (.leaf (a0, 2, a2))
    (.bind (zds a0) fun v2 =>
    (.ite (decide (v2.Waiting < a1))
      (.leaf (v2, 7, a2))
      (.bind (zds v2) fun v3 =>
      (.bind (zih ({ (v3 : Bank) with Waiting := IntKind.i64.wrap (v3.Waiting - a1) }) a2) fun v4 =>
      (.leaf ({ (v4.2.1 : Bank) with Free := (v4.2.1.Free.set v4.1 (IntKind.i64.wrap ((v4.2.1.Free.get v4.1) + a1))) }, 0, v4.2.2)))))))))
def zij (a0 : Bank) (a1 : Int) (a2 : Int) : Option (Bank × Int × Int) := (zn9 a0 a1 a2).run
def zr18 : LQ (Bank × Int × Int) := (LQ.seq (Par.q (Par.ofLP bankL)) (LQ.skip (LQ.const (.fn 119 [])) (LQ.skip (LQ.const (.fn 139 [.ptr 0 0])) (LQ.seq (Par.q intP) (Par.q intP)))))
def zxh : LQ (Bank × Int × Int) := (LQ.seq (Par.q (Par.ofLP bankL)) (LQ.seq (Par.q intP) (Par.q intP)))
def zz1 : SpecT := zt 1 zr18 4 [.cells 3 1] (fun s => zn9 s.1 s.2.1 s.2.2) default zxh 2 [.cells 3 1]
theorem z6e : zg Tryz.prog 116 (zz1).spec :=
  zd (A := za18) zh18 Facts.mix Tryz.func116 (c := zc18) (by kernel_rfl) (Lc := 1) trivial zr18 4 5 [.cells 3 1] (fun s => zn9 s.1 s.2.1 s.2.2) default zxh 2 [.cells 3 1] [] (by decide) (by kernel_rfl) (by rfl) (by decide) (by decide) (by rfl)
    (by rintro ⟨a0, a1, a2⟩; kernel_rfl)
noncomputable def zc19 : Code := Tryz.f116.body.getD .skip
def zv19 : List (List Nat) := [[1, 2, 3, 4, 8], [1, 2, 3, 4, 8, 10], [8, 9], [1, 2, 3, 4, 8, 20], [8, 9], [2, 3, 4, 8], [4, 8], [8, 9]]
noncomputable def zy19 : EnvT := ⟨Tryz.prog, zq [(50, zjf), (51, zjq), (118, zn5), (120, zu0)]⟩
theorem zh19 : (zy19).Ok := zc ⟨zjr, zje, zrd, zzy, trivial⟩
def za19 : Ann := ⟨[], [], [], zv19, []⟩
def zoa (a0 : Bank) (a1 : Int) : Tr (Bank × Int) :=
  (.bind (zfg a0) fun v1 =>
  (.guard (((!v1) = false → ((z8 a1).isSome = true) ∧ True))
  (.ite ((!v1) || (!((z8 a1).getD default)))
    (.leaf (a0, 2))
    (.bind (zen a0) fun v2 =>
    (.ite (decide (v2.Bonded < a1))
      (.leaf (v2, 7))
      (.bind (zen v2) fun v3 =>
      (.bind (zn6 ({ (v3 : Bank) with Bonded := IntKind.i64.wrap (v3.Bonded - a1) })) fun v4 =>
      (.leaf ({ (v4 : Bank) with Burnt := IntKind.i64.wrap (v4.Burnt + a1) }, 0)))))))))
def zrf (a0 : Bank) (a1 : Int) : Option (Bank × Int) := (zoa a0 a1).run
def zr19 : LQ (Bank × Int) := (LQ.seq (Par.q (Par.ofLP bankL)) (LQ.skip (LQ.const (.fn 118 [])) (LQ.skip (LQ.const (.fn 120 [])) (Par.q intP))))
def zxi : LQ (Bank × Int) := (LQ.seq (Par.q (Par.ofLP bankL)) (Par.q intP))
def zz2 : SpecT := zt 0 zr19 4 [] (fun s => zoa s.1 s.2) default zxi 2 []
theorem z6f : zg Tryz.prog 116 (zz2).spec :=
  zd (A := za19) zh19 Facts.mix Tryz.func116 (c := zc19) (by kernel_rfl) (Lc := 0) trivial zr19 4 4 [] (fun s => zoa s.1 s.2) default zxi 2 [] [] (by decide) (by kernel_rfl) (by rfl) (by decide) (by decide) (by rfl)
    (by rintro ⟨a0, a1⟩; kernel_rfl)
noncomputable def zc20 : Code := Tryz.f116.body.getD .skip
def zv20 : List (List Nat) := [[1, 2, 3, 4, 8], [1, 2, 3, 4, 8, 10], [8, 9], [1, 2, 3, 4, 8, 20], [8, 9], [2, 3, 4, 8], [4, 8], [8, 9]]
noncomputable def zy20 : EnvT := ⟨Tryz.prog, zq [(50, zjf), (51, zjq), (119, zlx), (120, zu0)]⟩
theorem zh20 : (zy20).Ok := zc ⟨zjr, zje, zo3, zzy, trivial⟩
def za20 : Ann := ⟨[], [], [], zv20, []⟩
def zob (a0 : Bank) (a1 : Int) : Tr (Bank × Int) :=
  (.bind (zfg a0) fun v1 =>
  (.guard (((!v1) = false → ((z8 a1).isSome = true) ∧ True))
  (.ite ((!v1) || (!((z8 a1).getD default)))
    (.leaf (a0, 2))
    (.bind (zds a0) fun v2 =>
    (.ite (decide (v2.Waiting < a1))
      (.leaf (v2, 7))
      (.bind (zds v2) fun v3 =>
      (.bind (zn6 ({ (v3 : Bank) with Waiting := IntKind.i64.wrap (v3.Waiting - a1) })) fun v4 =>
      (.leaf ({ (v4 : Bank) with Burnt := IntKind.i64.wrap (v4.Burnt + a1) }, 0)))))))))
def zrg (a0 : Bank) (a1 : Int) : Option (Bank × Int) := (zob a0 a1).run
def zr20 : LQ (Bank × Int) := (LQ.seq (Par.q (Par.ofLP bankL)) (LQ.skip (LQ.const (.fn 119 [])) (LQ.skip (LQ.const (.fn 120 [])) (Par.q intP))))
def zxj : LQ (Bank × Int) := (LQ.seq (Par.q (Par.ofLP bankL)) (Par.q intP))
def zz3 : SpecT := zt 0 zr20 4 [] (fun s => zob s.1 s.2) default zxj 2 []
theorem z6g : zg Tryz.prog 116 (zz3).spec :=
  zd (A := za20) zh20 Facts.mix Tryz.func116 (c := zc20) (by kernel_rfl) (Lc := 0) trivial zr20 4 4 [] (fun s => zob s.1 s.2) default zxj 2 [] [] (by decide) (by kernel_rfl) (by rfl) (by decide) (by decide) (by rfl)
    (by rintro ⟨a0, a1⟩; kernel_rfl)
def zo4 : SpecT := altT zzz (altT zz0 (altT zz1 (altT zz2 (zz3))))
theorem zqe : zg Tryz.prog 116 (zo4).spec := z8h z6c (z8h z6d (z8h z6e (z8h z6f (z6g))))
noncomputable def zc22 : Code := Tryz.f92.body.getD .skip
def zv22 : List (List Nat) := [[1, 2, 3, 6], [1, 2, 3, 6, 10], [6, 7], [6, 7]]
noncomputable def zy22 : EnvT := ⟨Tryz.prog, zq [(115, znc), (117, zyk), (116, zo4)]⟩
theorem zh22 : (zy22).Ok := zc ⟨zrv, z10, zqe, trivial⟩
def za22 : Ann := ⟨[], [], [], zv22, []⟩
def zs7 (a0 : Bank) (a1 : Int) (a2 : Int) : Tr (Bank × Int) :=
  (.bind (zhh a1) fun v1 =>
  (.ite (!v1)
    (.leaf (a0, 4))
    (.guard ((zb9 a1).isSome = true)
    (.guard ((zii a0 a2 ((zb9 a1).getD default)).isSome = true)
    (.leaf ((((zii a0 a2 ((zb9 a1).getD default)).getD default).1), ((zii a0 a2 ((zb9 a1).getD default)).getD default).2.1))))))
def zqf (a0 : Bank) (a1 : Int) (a2 : Int) : Option (Bank × Int) := (zs7 a0 a1 a2).run
def zr22 : LQ (Bank × Int × Int) := (LQ.seq (Par.q (Par.ofLP bankL)) (LQ.seq (Par.q intP) (Par.q intP)))
def z11 : LQ (Bank × Int) := (LQ.seq (Par.q (Par.ofLP bankL)) (Par.q intP))
def z4a : SpecT := zt 0 zr22 3 [] (fun s => zs7 s.1 s.2.1 s.2.2) default z11 2 []
theorem zaan : zg Tryz.prog 92 (z4a).spec :=
  zd (A := za22) zh22 Facts.mix Tryz.func92 (c := zc22) (by kernel_rfl) (Lc := 0) trivial zr22 3 5 [] (fun s => zs7 s.1 s.2.1 s.2.2) default z11 2 [] [] (by decide) (by kernel_rfl) (by rfl) (by decide) (by decide) (by rfl)
    (by rintro ⟨a0, a1, a2⟩; kernel_rfl)
noncomputable def zc23 : Code := Tryz.f93.body.getD .skip
def zv23 : List (List Nat) := [[1, 2, 4], [4, 5]]
noncomputable def zy23 : EnvT := ⟨Tryz.prog, zq [(116, zo4)]⟩
theorem zh23 : (zy23).Ok := zc ⟨zqe, trivial⟩
def za23 : Ann := ⟨[], [], [], zv23, []⟩
def zoc (a0 : Bank) (a1 : Int) : Tr (Bank × Int) :=
  (.bind (zre a0 a1) fun v2 =>
  (.leaf (v2.1, v2.2)))
def zik (a0 : Bank) (a1 : Int) : Option (Bank × Int) := (zoc a0 a1).run
def zr23 : LQ (Bank × Int) := (LQ.seq (Par.q (Par.ofLP bankL)) (Par.q intP))
def zxk : LQ (Bank × Int) := (LQ.seq (Par.q (Par.ofLP bankL)) (Par.q intP))
def zz4 : SpecT := zt 0 zr23 2 [] (fun s => zoc s.1 s.2) default zxk 2 []
theorem z6h : zg Tryz.prog 93 (zz4).spec :=
  zd (A := za23) zh23 Facts.mix Tryz.func93 (c := zc23) (by kernel_rfl) (Lc := 0) trivial zr23 2 4 [] (fun s => zoc s.1 s.2) default zxk 2 [] [] (by decide) (by kernel_rfl) (by rfl) (by decide) (by decide) (by rfl)
    (by rintro ⟨a0, a1⟩; kernel_rfl)
noncomputable def zc24 : Code := Tryz.f127.body.getD .skip
def zv24 : List (List Nat) := [[1, 2, 3, 6], [1, 2, 3, 6, 10], [6, 7], [6, 7]]
noncomputable def zy24 : EnvT := ⟨Tryz.prog, zq [(115, znc), (117, zyk), (116, zo4)]⟩
theorem zh24 : (zy24).Ok := zc ⟨zrv, z10, zqe, trivial⟩
def za24 : Ann := ⟨[], [], [], zv24, []⟩
def zwn (a0 : Bank) (a1 : Int) (a2 : Int) : Tr (Bank × Int) :=
  (.bind (zhh a1) fun v1 =>
  (.ite (!v1)
    (.leaf (a0, 4))
    (.guard ((zb9 a1).isSome = true)
    (.guard ((zij a0 a2 ((zb9 a1).getD default)).isSome = true)
    (.leaf ((((zij a0 a2 ((zb9 a1).getD default)).getD default).1), ((zij a0 a2 ((zb9 a1).getD default)).getD default).2.1))))))
def zyl (a0 : Bank) (a1 : Int) (a2 : Int) : Option (Bank × Int) := (zwn a0 a1 a2).run
def zr24 : LQ (Bank × Int × Int) := (LQ.seq (Par.q (Par.ofLP bankL)) (LQ.seq (Par.q intP) (Par.q intP)))
def z4b : LQ (Bank × Int) := (LQ.seq (Par.q (Par.ofLP bankL)) (Par.q intP))
def z69 : SpecT := zt 0 zr24 3 [] (fun s => zwn s.1 s.2.1 s.2.2) default z4b 2 []
theorem zacz : zg Tryz.prog 127 (z69).spec :=
  zd (A := za24) zh24 Facts.mix Tryz.func127 (c := zc24) (by kernel_rfl) (Lc := 0) trivial zr24 3 5 [] (fun s => zwn s.1 s.2.1 s.2.2) default z4b 2 [] [] (by decide) (by kernel_rfl) (by rfl) (by decide) (by decide) (by rfl)
    (by rintro ⟨a0, a1, a2⟩; kernel_rfl)
noncomputable def zc25 : Code := Tryz.f96.body.getD .skip
def zv25 : List (List Nat) := [[1, 2, 3, 6], [2, 3, 6, 8, 9], [2, 3, 6, 8, 9, 17], [6, 7], [3, 6, 8, 9], [3, 6, 8, 9, 27], [6, 7], [6, 7]]
noncomputable def zy25 : EnvT := ⟨Tryz.prog, zq [(116, zo4)]⟩
theorem zh25 : (zy25).Ok := zc ⟨zqe, trivial⟩
def za25 : Ann := ⟨[], [], [], zv25, []⟩
def zs8 (a0 : Bank) (a1 : Int) (a2 : Int) : Tr (Bank × Int) :=
  (.bind (zrf a0 a1) fun v4 =>
  (.ite (v4.2 != 0)
    (.leaf (a0, v4.2))
    (.bind (zrg v4.1 a2) fun v9 =>
    (.ite (v9.2 != 0)
      (.leaf (a0, v9.2))
      (.leaf (v9.1, 0))))))
def zu1 (a0 : Bank) (a1 : Int) (a2 : Int) : Option (Bank × Int) := (zs8 a0 a1 a2).run
def zr25 : LQ (Bank × Int × Int) := (LQ.seq (Par.q (Par.ofLP bankL)) (LQ.seq (Par.q intP) (Par.q intP)))
def z12 : LQ (Bank × Int) := (LQ.seq (Par.q (Par.ofLP bankL)) (Par.q intP))
def z4c : SpecT := zt 0 zr25 3 [] (fun s => zs8 s.1 s.2.1 s.2.2) default z12 2 []
theorem zaao : zg Tryz.prog 96 (z4c).spec :=
  zd (A := za25) zh25 Facts.mix Tryz.func96 (c := zc25) (by kernel_rfl) (Lc := 0) trivial zr25 3 5 [] (fun s => zs8 s.1 s.2.1 s.2.2) default z12 2 [] [] (by decide) (by kernel_rfl) (by rfl) (by decide) (by decide) (by rfl)
    (by rintro ⟨a0, a1, a2⟩; kernel_rfl)
noncomputable def zc26 : Code := Tryz.f32.body.getD .skip
def zv26 : List (List Nat) := [[0], [2]]
noncomputable def zy26 : EnvT := ⟨Tryz.prog, zq []⟩
theorem zh26 : (zy26).Ok := zc trivial
def za26 : Ann := ⟨[], [], [], zv26, []⟩
def zhi (a0 : Int) : Tr (Int) :=
  (.guard ((5 : Int) ≠ 0)
  (.leaf (if (IntKind.i64.wrap (Int.tdiv a0 5)) > 1 then (IntKind.i64.wrap (Int.tdiv a0 5)) else 1)))
def zj1 (a0 : Int) : Option (Int) := (zhi a0).run
def zr26 : LQ (Int) := (Par.q intP)
def zqg : LQ (Int) := (Par.q intP)
def zrw : SpecT := zt 0 zr26 1 [] (fun s => zhi s) default zqg 1 []
theorem zz5 : zg Tryz.prog 32 (zrw).spec :=
  zd (A := za26) zh26 Facts.mix Tryz.func32 (c := zc26) (by kernel_rfl) (Lc := 0) trivial zr26 1 2 [] (fun s => zhi s) default zqg 1 [] [] (by decide) (by kernel_rfl) (by rfl) (by decide) (by decide) (by rfl)
    (by rintro a0; kernel_rfl)
noncomputable def zc27 : Code := Tryz.f67.body.getD .skip
def zv27 : List (List Nat) := [[0, 1, 4], [4]]
noncomputable def zy27 : EnvT := ⟨Tryz.prog, zq [(32, zrw)]⟩
theorem zh27 : (zy27).Ok := zc ⟨zz5, trivial⟩
def za27 : Ann := ⟨[], [], [], zv27, []⟩
def zs9 (a0 : Int) (a1 : Int) : Tr (Meter) :=
  (.bind (zj1 a0) fun v1 =>
  (.leaf (⟨v1, IntKind.i64.wrap (a1 + 10)⟩ : Meter)))
def zqh (a0 : Int) (a1 : Int) : Option (Meter) := (zs9 a0 a1).run
def zr27 : LQ (Int × Int) := (LQ.seq (Par.q intP) (Par.q intP))
def z13 : LQ (Meter) := (Par.q (Par.ofLP meterL))
def zym : SpecT := zt 0 zr27 2 [] (fun s => zs9 s.1 s.2) default z13 1 []
theorem z14 : zg Tryz.prog 67 (zym).spec :=
  zd (A := za27) zh27 Facts.mix Tryz.func67 (c := zc27) (by kernel_rfl) (Lc := 0) trivial zr27 2 3 [] (fun s => zs9 s.1 s.2) default z13 1 [] [] (by decide) (by kernel_rfl) (by rfl) (by decide) (by decide) (by rfl)
    (by rintro ⟨a0, a1⟩; kernel_rfl)
noncomputable def zc28 : Code := Tryz.f97.body.getD .skip
def zv28 : List (List Nat) := [[1, 2, 3, 6], [1, 2, 3, 6, 10], [6], [6]]
noncomputable def zy28 : EnvT := ⟨Tryz.prog, zq [(67, zym)]⟩
theorem zh28 : (zy28).Ok := zc ⟨z14, trivial⟩
def za28 : Ann := ⟨[], [], [], zv28, []⟩
def zqi (a0 : Meter) (a1 : Int) (a2 : Int) : Tr (Meter) :=
  (.ite (decide (a2 ≥ a0.Next))
    (.bind (zqh a1 a2) fun v1 =>
    (.leaf v1))
    (.leaf a0))
def zod (a0 : Meter) (a1 : Int) (a2 : Int) : Option (Meter) := (zqi a0 a1 a2).run
def zr28 : LQ (Meter × Int × Int) := (LQ.seq (Par.q (Par.ofLP meterL)) (LQ.seq (Par.q intP) (Par.q intP)))
def zz6 : LQ (Meter) := (Par.q (Par.ofLP meterL))
def z15 : SpecT := zt 0 zr28 3 [] (fun s => zqi s.1 s.2.1 s.2.2) default zz6 1 []
theorem z80 : zg Tryz.prog 97 (z15).spec :=
  zd (A := za28) zh28 Facts.mix Tryz.func97 (c := zc28) (by kernel_rfl) (Lc := 0) trivial zr28 3 4 [] (fun s => zqi s.1 s.2.1 s.2.2) default zz6 1 [] [] (by decide) (by kernel_rfl) (by rfl) (by decide) (by decide) (by rfl)
    (by rintro ⟨a0, a1, a2⟩; kernel_rfl)
noncomputable def zc29 : Code := Tryz.f122.body.getD .skip
def zv29 : List (List Nat) := [[1, 2, 4], [1, 2, 4, 8], [4, 5], [2, 4], [4, 5]]
noncomputable def zy29 : EnvT := ⟨Tryz.prog, zq []⟩
theorem zh29 : (zy29).Ok := zc trivial
def za29 : Ann := ⟨[], [], [], zv29, []⟩
def zqj (a0 : Meter) (a1 : Int) : Tr (Meter × Bool) :=
  (.ite (decide (a0.Left ≤ 0))
    (.leaf (a0, false))
    (.leaf ((⟨IntKind.i64.wrap (a0.Left - a1), a0.Next⟩ : Meter), true)))
def zhj (a0 : Meter) (a1 : Int) : Option (Meter × Bool) := (zqj a0 a1).run
def zr29 : LQ (Meter × Int) := (LQ.seq (Par.q (Par.ofLP meterL)) (Par.q intP))
def zz7 : LQ (Meter × Bool) := (LQ.seq (Par.q (Par.ofLP meterL)) (Par.q boolP))
def z16 : SpecT := zt 0 zr29 2 [] (fun s => zqj s.1 s.2) default zz7 2 []
theorem z81 : zg Tryz.prog 122 (z16).spec :=
  zd (A := za29) zh29 Facts.mix Tryz.func122 (c := zc29) (by kernel_rfl) (Lc := 0) trivial zr29 2 4 [] (fun s => zqj s.1 s.2) default zz7 2 [] [] (by decide) (by kernel_rfl) (by rfl) (by decide) (by decide) (by rfl)
    (by rintro ⟨a0, a1⟩; kernel_rfl)
end
end Go.Proofs.YtmakmlnfbdablaaGreat.Ab
