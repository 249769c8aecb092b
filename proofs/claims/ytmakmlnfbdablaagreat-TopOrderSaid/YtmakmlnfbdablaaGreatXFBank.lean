/-
  The functions, each by its tree.
-/
import Derived.Test.YtmakmlnfbdablaaGreatXAbFun
import Derived.Test.YtmakmlnfbdablaaGreatXAbStructs
import Derived.Test.YtmakmlnfbdablaaGreatXFRatio
import Derived.Test.YtmakmlnfbdablaaGreatXFacts
namespace Go.Proofs.YtmakmlnfbdablaaGreat.Ab
open Go Go.RowKit
set_option maxRecDepth 100000
set_option linter.unusedVariables false
set_option linter.unusedSimpArgs false
noncomputable section
noncomputable def zc7 : Code := Tryz.f89.body.getD .skip
def zv7 : List (List Nat) := [[0], [0, 1], [0, 1, 3], [0, 1, 3, 4], [0, 1, 2, 3], [0, 1, 3], [0, 1, 3], [0]]
noncomputable def zy7 : EnvT := ⟨Tryz.prog, zw []⟩
theorem zh7 : (zy7).Ok := ze trivial
def zgk (x0 : Int) (x1 : Bank) (x2 : Bank) : Tr ((Int × Bank × Bank) ⊕ (Bank × Bank)) :=
  (.ite (decide (x0 < 4))
    (.guard ((0 : Int) ≤ x0 ∧ (x0 : Int) < 4)
    (.leaf (.inl (IntKind.i64.wrap (x0 + 1), x1, { (x2 : Bank) with Free := (x2.Free.set x0 100000) }))))
    (.leaf (.inr (x1, x2))))
def zti (x0 : Int) (x1 : Bank) (x2 : Bank) : Option (Bank × Bank) := zd5 (fun s : Int × Bank × Bank => (zgk s.1 s.2.1 s.2.2).run) (x0, x1, x2)
def za7a : Ann := ⟨[], [], [], zv7, []⟩
def zq7a : EndD (Int × Bank × Bank) := ⟨(LQ.skip (LQ.const (.ptr 0 0)) (LQ.skip (LQ.const (.ptr 1 0)) (LQ.seq (Par.q intP) (LQ.seq (LP.q bankL) (LP.q bankL))))), ⟨[0, 1, 3], []⟩, [.cells 38 7, .cells 38 7]⟩
def zaxe : EndD (Bank × Bank) := ⟨(LQ.skip (LQ.const (.ptr 0 0)) (LQ.skip (LQ.const (.ptr 1 0)) (LQ.seq (LP.q bankL) (LP.q bankL)))), ⟨[0, 1], []⟩, [.cells 38 7, .cells 38 7]⟩
def zl7a : St → Option LR := L1 11 4 0 zq7a (.exit 0) zaxe (fun s => zgk s.1 s.2.1 s.2.2)
theorem zk7a : zv (zy7).env 0 (sub zc7 [0, 1, 0, 1, 1]) zl7a :=
  zji (A := za7a) zh7 Facts.mix trivial (k := zb1 (sub zc7 [0, 1, 0, 1, 1])) (by kernel_rfl) rfl (by rintro ⟨x0, x1, x2⟩; kernel_rfl)
def za7 : Ann := ⟨[([0, 1, 0, 1, 1], zl7a)], [], [], zv7, []⟩
def zza  : Tr (Bank) :=
  (.bind (zti 0 (⟨(⟨0, 0, 0, 0⟩ : (A4 Int)), 0, 0, 0⟩ : Bank) (⟨(⟨0, 0, 0, 0⟩ : (A4 Int)), 0, 0, 0⟩ : Bank)) fun v1 =>
  (.leaf v1.2))
def z05  : Option (Bank) := (zza ).run
def zr7 : LQ (Unit) := LQ.nil
def z6w : LQ (Bank) := (Par.q (Par.ofLP bankL))
def z92 : SpecT := zx 0 zr7 0 [] (fun s => zza ) default z6w 1 []
theorem zaga : zj Tryz.prog 89 (z92).spec :=
  zf (A := za7) zh7 Facts.mix Tryz.func89 (c := zc7) (by kernel_rfl) (Lc := 0) ⟨zk7a, trivial⟩ zr7 0 4 [] (fun s => zza ) default z6w 1 [] [] (by decide) (by kernel_rfl) (by rfl) (by decide) (by decide) (by rfl)
    (by rintro _; kernel_rfl)
noncomputable def zc8 : Code := Tryz.f20.body.getD .skip
def zv8 : List (List Nat) := [[1], [1, 3], [3, 15, 16], [3, 15, 16, 17], [3, 5, 15, 16], [3, 15, 16], [3, 15, 16], [2]]
noncomputable def zy8 : EnvT := ⟨Tryz.prog, zw []⟩
theorem zh8 : (zy8).Ok := ze trivial
def zgl (x0 : Int) (x1 : (A4 Int)) (x2 : Int) : Tr ((Int × (A4 Int) × Int) ⊕ (Int)) :=
  (.ite (decide (x2 < 4))
    (.guard ((0 : Int) ≤ x2 ∧ (x2 : Int) < 4)
    (.leaf (.inl (IntKind.i64.wrap (x0 + (x1.get x2)), x1, IntKind.i64.wrap (x2 + 1)))))
    (.leaf (.inr x0)))
def ztj (x0 : Int) (x1 : (A4 Int)) (x2 : Int) : Option (Int) := zd5 (fun s : Int × (A4 Int) × Int => (zgl s.1 s.2.1 s.2.2).run) (x0, x1, x2)
def za8a : Ann := ⟨[], [], [], zv8, []⟩
def zq8a : EndD (Int × (A4 Int) × Int) := ⟨(LQ.seq (Par.q intP) (LQ.seq (Par.q (Par.ofLP (a4L (LP.one intP)))) (Par.q intP))), ⟨[3, 15, 16], []⟩, []⟩
def zaxf : EndD (Int) := ⟨(Par.q intP), ⟨[3], []⟩, []⟩
def zl8a : St → Option LR := L1 24 3 0 zq8a (.exit 0) zaxf (fun s => zgl s.1 s.2.1 s.2.2)
theorem zk8a : zv (zy8).env 0 (sub zc8 [0, 1, 0, 1, 1]) zl8a :=
  zji (A := za8a) zh8 Facts.mix trivial (k := zb1 (sub zc8 [0, 1, 0, 1, 1])) (by kernel_rfl) rfl (by rintro ⟨x0, x1, x2⟩; kernel_rfl)
def za8 : Ann := ⟨[([0, 1, 0, 1, 1], zl8a)], [], [], zv8, []⟩
def zzb (a0 : Bank) : Tr (Int) :=
  (.bind (ztj (IntKind.i64.wrap ((IntKind.i64.wrap (a0.Bonded + a0.Waiting)) + a0.Burnt)) a0.Free 0) fun v1 =>
  (.leaf v1))
def z06 (a0 : Bank) : Option (Int) := (zzb a0).run
def zr8 : LQ (Bank) := (Par.q (Par.ofLP bankL))
def z6x : LQ (Int) := (Par.q intP)
def z93 : SpecT := zx 0 zr8 1 [] (fun s => zzb s) default z6x 1 []
theorem zagb : zj Tryz.prog 20 (z93).spec :=
  zf (A := za8) zh8 Facts.mix Tryz.func20 (c := zc8) (by kernel_rfl) (Lc := 0) ⟨zk8a, trivial⟩ zr8 1 3 [] (fun s => zzb s) default z6x 1 [] [] (by decide) (by kernel_rfl) (by rfl) (by decide) (by decide) (by rfl)
    (by rintro a0; kernel_rfl)
noncomputable def zc9 : Code := Tryz.f50.body.getD .skip
def zv9 : List (List Nat) := [[1], [1, 14, 15, 16], [1, 14, 15, 16, 17], [1, 4, 14, 15, 16], [1, 14, 15, 16, 25], [2], [1, 14, 15, 16], [2]]
noncomputable def zy9 : EnvT := ⟨Tryz.prog, zw [(20, z93)]⟩
theorem zh9 : (zy9).Ok := ze ⟨zagb, trivial⟩
def zjj (x0 : Int) (x1 : Int) (x2 : Bank) (x3 : (List Int)) : Tr ((Int × Int × Bank × (List Int)) ⊕ ((Bool) ⊕ (Bank))) :=
  (.ite (decide (x1 < x0))
    (.guard ((0 : Int) ≤ x1 ∧ x1 < ((Sl.len (.ints x3) : Nat) : Int))
    (.ite ((decide ((x3.getD x1.toNat 0) < 0)) || (decide ((x3.getD x1.toNat 0) > 400000)))
      (.leaf (.inr (.inl false)))
      (.leaf (.inl (x0, IntKind.i64.wrap (x1 + 1), x2, x3)))))
    (.leaf (.inr (.inr x2))))
def zxj (x0 : Int) (x1 : Int) (x2 : Bank) (x3 : (List Int)) : Option ((Bool) ⊕ (Bank)) := zd5 (fun s : Int × Int × Bank × (List Int) => (zjj s.1 s.2.1 s.2.2.1 s.2.2.2).run) (x0, x1, x2, x3)
def za9a : Ann := ⟨[], [], [], zv9, []⟩
def zq9a : EndD (Int × Int × Bank × (List Int)) := ⟨(LQ.skip (LQ.const (.ptr 0 0)) (LQ.skip (LQ.const (.own 1)) (LQ.seq (Par.q intP) (LQ.seq (Par.q intP) (LQ.seq (LP.q bankL) (Par.q zhs)))))), ⟨[1, 14, 15, 16], [.nilown 14 3 (.ints [])]⟩, [.cells 38 7, .rows 3]⟩
def zaxg : EndD (Bool) := ⟨(Par.q boolP), ⟨[2], []⟩, []⟩
def zaxh : EndD (Bank) := ⟨(LQ.skip (LQ.const (.ptr 0 0)) (LP.q bankL)), ⟨[1], []⟩, [.cells 38 7]⟩
def zl9a : St → Option LR := L2 30 5 0 zq9a .ret zaxg (.exit 0) zaxh (fun s => zjj s.1 s.2.1 s.2.2.1 s.2.2.2)
theorem zk9a : zv (zy9).env 0 (sub zc9 [0, 1, 0, 1]) zl9a :=
  zlc (A := za9a) zh9 Facts.mix trivial (k := zb1 (sub zc9 [0, 1, 0, 1])) (by kernel_rfl) rfl rfl (by rintro ⟨x0, x1, x2, x3⟩; kernel_rfl)
def za9 : Ann := ⟨[([0, 1, 0, 1], zl9a)], [], [], zv9, []⟩
def zva (a0 : Bank) : Tr (Bool) :=
  (.guard ((Sl.len (.ints [a0.Free.x0, a0.Free.x1, a0.Free.x2, a0.Free.x3]) + Sl.len (.ints [a0.Bonded, a0.Waiting, a0.Burnt])) * 8 ≤ 140737488355328)
  (.guard (0 < Sl.len (.ints [a0.Bonded, a0.Waiting, a0.Burnt]))
  (.two (zxj ((([a0.Free.x0, a0.Free.x1, a0.Free.x2, a0.Free.x3] ++ [a0.Bonded, a0.Waiting, a0.Burnt]).length : Nat) : Int) 0 a0 ([a0.Free.x0, a0.Free.x1, a0.Free.x2, a0.Free.x3] ++ [a0.Bonded, a0.Waiting, a0.Burnt])) (fun v1 =>
    (.leaf v1)) (fun v2 =>
    (.bind (z06 v2) fun v3 =>
    (.leaf (v3 == 400000)))))))
def zgb (a0 : Bank) : Option (Bool) := (zva a0).run
def zr9 : LQ (Bank) := (Par.q (Par.ofLP bankL))
def z4k : LQ (Bool) := (Par.q boolP)
def zko : SpecT := zx 0 zr9 1 [] (fun s => zva s) default z4k 1 []
theorem zk3 : zj Tryz.prog 50 (zko).spec :=
  zf (A := za9) zh9 Facts.mix Tryz.func50 (c := zc9) (by kernel_rfl) (Lc := 0) ⟨zk9a, trivial⟩ zr9 1 5 [] (fun s => zva s) default z4k 1 [] [] (by decide) (by kernel_rfl) (by rfl) (by decide) (by decide) (by rfl)
    (by rintro a0; kernel_rfl)
noncomputable def zc10 : Code := Tryz.f115.body.getD .skip
def zv10 : List (List Nat) := [[0], [2]]
noncomputable def zy10 : EnvT := ⟨Tryz.prog, zw []⟩
theorem zh10 : (zy10).Ok := ze trivial
def za10 : Ann := ⟨[], [], [], zv10, []⟩
def zgx (a0 : Int) : Tr (Bool) :=
  (.leaf ((decide (a0 ≥ 0)) && (decide (a0 < 4))))
def zim (a0 : Int) : Option (Bool) := (zgx a0).run
def zr10 : LQ (Int) := (Par.q intP)
def zt6 : LQ (Bool) := (Par.q boolP)
def zo5 : SpecT := zx 0 zr10 1 [] (fun s => zgx s) default zt6 1 []
theorem zt7 : zj Tryz.prog 115 (zo5).spec :=
  zf (A := za10) zh10 Facts.mix Tryz.func115 (c := zc10) (by kernel_rfl) (Lc := 0) trivial zr10 1 2 [] (fun s => zgx s) default zt6 1 [] [] (by decide) (by kernel_rfl) (by rfl) (by decide) (by decide) (by rfl)
    (by rintro a0; kernel_rfl)
noncomputable def zc11 : Code := Tryz.f139.body.getD .skip
def zv11 : List (List Nat) := [[0, 1], [3]]
noncomputable def zy11 : EnvT := ⟨Tryz.prog, zw []⟩
theorem zh11 : (zy11).Ok := ze trivial
def za11 : Ann := ⟨[], [], [], zv11, []⟩
def zp1 (a0 : Bank) (a1 : Int) : Tr (Int × Bank × Int) :=
  (.guard ((0 : Int) ≤ a1 ∧ (a1 : Int) < 4)
  (.leaf (a1, a0, a1)))
def zjk (a0 : Bank) (a1 : Int) : Option (Int × Bank × Int) := (zp1 a0 a1).run
def zr11 : LQ (Bank × Int) := (LQ.skip (LQ.const (.ptr 0 0)) (LQ.skip (LQ.const (.ptr 1 0)) (LQ.seq (LP.q bankL) (Par.q intP))))
def zzx : LQ (Int × Bank × Int) := (LQ.seq (LQ.pix1 0 0 4 1 0) (LQ.seq (LP.q bankL) (Par.q intP)))
def zvb : SpecT := zx 2 zr11 2 [.cells 38 7, .cells 3 1] (fun s => zp1 s.1 s.2) default zzx 1 [.cells 38 7, .cells 3 1]
theorem zzy : zj Tryz.prog 139 (zvb).spec :=
  zf (A := za11) zh11 Facts.mix Tryz.func139 (c := zc11) (by kernel_rfl) (Lc := 2) trivial zr11 2 4 [.cells 38 7, .cells 3 1] (fun s => zp1 s.1 s.2) default zzx 1 [.cells 38 7, .cells 3 1] [] (by decide) (by kernel_rfl) (by rfl) (by decide) (by decide) (by rfl)
    (by rintro ⟨a0, a1⟩; kernel_rfl)
noncomputable def zc12 : Code := Tryz.f117.body.getD .skip
def zv12 : List (List Nat) := [[1], [2]]
noncomputable def zy12 : EnvT := ⟨Tryz.prog, zw []⟩
theorem zh12 : (zy12).Ok := ze trivial
def za12 : Ann := ⟨[], [], [], zv12, []⟩
def zq0 (a0 : Int) : Tr (Int) :=
  (.leaf a0)
def zcj (a0 : Int) : Option (Int) := (zq0 a0).run
def zr12 : LQ (Int) := (Par.q intP)
def z4l : LQ (Int) := (LQ.skip (LQ.const (.fn 139 [.ptr 0 0])) (Par.q intP))
def z07 : SpecT := zx 0 zr12 1 [] (fun s => zq0 s) default z4l 1 [.cells 3 1]
theorem z4m : zj Tryz.prog 117 (z07).spec :=
  zf (A := za12) zh12 Facts.mix Tryz.func117 (c := zc12) (by kernel_rfl) (Lc := 0) trivial zr12 1 3 [] (fun s => zq0 s) default z4l 1 [.cells 3 1] [] (by decide) (by kernel_rfl) (by rfl) (by decide) (by decide) (by rfl)
    (by rintro a0; kernel_rfl)
noncomputable def zc13 : Code := Tryz.f118.body.getD .skip
def zv13 : List (List Nat) := [[0], [2]]
noncomputable def zy13 : EnvT := ⟨Tryz.prog, zw []⟩
theorem zh13 : (zy13).Ok := ze trivial
def za13 : Ann := ⟨[], [], [], zv13, []⟩
def zp2 (a0 : Bank) : Tr (Bank) :=
  (.leaf a0)
def zfb (a0 : Bank) : Option (Bank) := (zp2 a0).run
def zr13 : LQ (Bank) := (LQ.skip (LQ.const (.ptr 0 0)) (LP.q bankL))
def zzz : LQ (Bank) := (LQ.skip (LQ.const (.ptr 0 4)) (LP.q bankL))
def zp3 : SpecT := zx 1 zr13 1 [.cells 38 7] (fun s => zp2 s) default zzz 1 [.cells 38 7]
theorem ztk : zj Tryz.prog 118 (zp3).spec :=
  zf (A := za13) zh13 Facts.mix Tryz.func118 (c := zc13) (by kernel_rfl) (Lc := 1) trivial zr13 1 3 [.cells 38 7] (fun s => zp2 s) default zzz 1 [.cells 38 7] [] (by decide) (by kernel_rfl) (by rfl) (by decide) (by decide) (by rfl)
    (by rintro a0; kernel_rfl)
noncomputable def zc14 : Code := Tryz.f119.body.getD .skip
def zv14 : List (List Nat) := [[0], [2]]
noncomputable def zy14 : EnvT := ⟨Tryz.prog, zw []⟩
theorem zh14 : (zy14).Ok := ze trivial
def za14 : Ann := ⟨[], [], [], zv14, []⟩
def znp (a0 : Bank) : Tr (Bank) :=
  (.leaf a0)
def zeb (a0 : Bank) : Option (Bank) := (znp a0).run
def zr14 : LQ (Bank) := (LQ.skip (LQ.const (.ptr 0 0)) (LP.q bankL))
def zxk : LQ (Bank) := (LQ.skip (LQ.const (.ptr 0 5)) (LP.q bankL))
def znq : SpecT := zx 1 zr14 1 [.cells 38 7] (fun s => znp s) default zxk 1 [.cells 38 7]
theorem zq1 : zj Tryz.prog 119 (znq).spec :=
  zf (A := za14) zh14 Facts.mix Tryz.func119 (c := zc14) (by kernel_rfl) (Lc := 1) trivial zr14 1 3 [.cells 38 7] (fun s => znp s) default zxk 1 [.cells 38 7] [] (by decide) (by kernel_rfl) (by rfl) (by decide) (by decide) (by rfl)
    (by rintro a0; kernel_rfl)
noncomputable def zc15 : Code := Tryz.f120.body.getD .skip
def zv15 : List (List Nat) := [[0], [2]]
noncomputable def zy15 : EnvT := ⟨Tryz.prog, zw []⟩
theorem zh15 : (zy15).Ok := ze trivial
def za15 : Ann := ⟨[], [], [], zv15, []⟩
def zsl (a0 : Bank) : Tr (Bank) :=
  (.leaf a0)
def zp4 (a0 : Bank) : Option (Bank) := (zsl a0).run
def zr15 : LQ (Bank) := (LQ.skip (LQ.const (.ptr 0 0)) (LP.q bankL))
def z2d : LQ (Bank) := (LQ.skip (LQ.const (.ptr 0 6)) (LP.q bankL))
def zxl : SpecT := zx 1 zr15 1 [.cells 38 7] (fun s => zsl s) default z2d 1 [.cells 38 7]
theorem z2e : zj Tryz.prog 120 (zxl).spec :=
  zf (A := za15) zh15 Facts.mix Tryz.func120 (c := zc15) (by kernel_rfl) (Lc := 1) trivial zr15 1 3 [.cells 38 7] (fun s => zsl s) default z2d 1 [.cells 38 7] [] (by decide) (by kernel_rfl) (by rfl) (by decide) (by decide) (by rfl)
    (by rintro a0; kernel_rfl)
noncomputable def zc16 : Code := Tryz.f116.body.getD .skip
def zv16 : List (List Nat) := [[1, 2, 3, 4, 8], [1, 2, 3, 4, 8, 10], [8, 9], [1, 2, 3, 4, 8, 20], [8, 9], [2, 3, 4, 8], [4, 8], [8, 9]]
noncomputable def zy16 : EnvT := ⟨Tryz.prog, zw [(50, zko), (51, zk2), (139, zvb), (118, zp3)]⟩
theorem zh16 : (zy16).Ok := ze ⟨zk3, zkn, zzy, ztk, trivial⟩
def za16 : Ann := ⟨[], [], [], zv16, []⟩
def zp5 (a0 : Bank) (a1 : Int) (a2 : Int) : Tr (Bank × Int × Int) :=
  (.bind (zgb a0) fun v1 =>
  (.guard (((!v1) = false → ((zag a1).isSome = true) ∧ True))
  (.ite ((!v1) || (!((zag a1).getD default)))
    (.leaf (a0, 2, a2))
    (.bind (zjk a0 a2) fun v2 =>
    (.ite (decide ((v2.2.1.Free.get v2.1) < a1))
      (.leaf (v2.2.1, 7, v2.2.2))
      (.bind (zjk v2.2.1 v2.2.2) fun v3 =>
      (.bind (zfb ({ (v3.2.1 : Bank) with Free := (v3.2.1.Free.set v3.1 (IntKind.i64.wrap ((v3.2.1.Free.get v3.1) - a1))) })) fun v4 =>
      (.leaf ({ (v4 : Bank) with Bonded := IntKind.i64.wrap (v4.Bonded + a1) }, 0, v3.2.2)))))))))
def zjl (a0 : Bank) (a1 : Int) (a2 : Int) : Option (Bank × Int × Int) := (zp5 a0 a1 a2).run
def zr16 : LQ (Bank × Int × Int) := (LQ.seq (Par.q (Par.ofLP bankL)) (LQ.skip (LQ.const (.fn 139 [.ptr 0 0])) (LQ.skip (LQ.const (.fn 118 [])) (LQ.seq (Par.q intP) (Par.q intP)))))
def zz0 : LQ (Bank × Int × Int) := (LQ.seq (Par.q (Par.ofLP bankL)) (LQ.seq (Par.q intP) (Par.q intP)))
def z2f : SpecT := zx 1 zr16 4 [.cells 3 1] (fun s => zp5 s.1 s.2.1 s.2.2) default zz0 2 [.cells 3 1]
theorem z84 : zj Tryz.prog 116 (z2f).spec :=
  zf (A := za16) zh16 Facts.mix Tryz.func116 (c := zc16) (by kernel_rfl) (Lc := 1) trivial zr16 4 5 [.cells 3 1] (fun s => zp5 s.1 s.2.1 s.2.2) default zz0 2 [.cells 3 1] [] (by decide) (by kernel_rfl) (by rfl) (by decide) (by decide) (by rfl)
    (by rintro ⟨a0, a1, a2⟩; kernel_rfl)
noncomputable def zc17 : Code := Tryz.f116.body.getD .skip
def zv17 : List (List Nat) := [[1, 2, 3, 4, 8], [1, 2, 3, 4, 8, 10], [8, 9], [1, 2, 3, 4, 8, 20], [8, 9], [2, 3, 4, 8], [4, 8], [8, 9]]
noncomputable def zy17 : EnvT := ⟨Tryz.prog, zw [(50, zko), (51, zk2), (118, zp3), (119, znq)]⟩
theorem zh17 : (zy17).Ok := ze ⟨zk3, zkn, ztk, zq1, trivial⟩
def za17 : Ann := ⟨[], [], [], zv17, []⟩
def zp6 (a0 : Bank) (a1 : Int) : Tr (Bank × Int) :=
  (.bind (zgb a0) fun v1 =>
  (.guard (((!v1) = false → ((zag a1).isSome = true) ∧ True))
  (.ite ((!v1) || (!((zag a1).getD default)))
    (.leaf (a0, 2))
    (.bind (zfb a0) fun v2 =>
    (.ite (decide (v2.Bonded < a1))
      (.leaf (v2, 7))
      (.bind (zfb v2) fun v3 =>
      (.bind (zeb ({ (v3 : Bank) with Bonded := IntKind.i64.wrap (v3.Bonded - a1) })) fun v4 =>
      (.leaf ({ (v4 : Bank) with Waiting := IntKind.i64.wrap (v4.Waiting + a1) }, 0)))))))))
def ztl (a0 : Bank) (a1 : Int) : Option (Bank × Int) := (zp6 a0 a1).run
def zr17 : LQ (Bank × Int) := (LQ.seq (Par.q (Par.ofLP bankL)) (LQ.skip (LQ.const (.fn 118 [])) (LQ.skip (LQ.const (.fn 119 [])) (Par.q intP))))
def zz1 : LQ (Bank × Int) := (LQ.seq (Par.q (Par.ofLP bankL)) (Par.q intP))
def z2g : SpecT := zx 0 zr17 4 [] (fun s => zp6 s.1 s.2) default zz1 2 []
theorem z85 : zj Tryz.prog 116 (z2g).spec :=
  zf (A := za17) zh17 Facts.mix Tryz.func116 (c := zc17) (by kernel_rfl) (Lc := 0) trivial zr17 4 4 [] (fun s => zp6 s.1 s.2) default zz1 2 [] [] (by decide) (by kernel_rfl) (by rfl) (by decide) (by decide) (by rfl)
    (by rintro ⟨a0, a1⟩; kernel_rfl)
noncomputable def zc18 : Code := Tryz.f116.body.getD .skip
def zv18 : List (List Nat) := [[1, 2, 3, 4, 8], [1, 2, 3, 4, 8, 10], [8, 9], [1, 2, 3, 4, 8, 20], [8, 9], [2, 3, 4, 8], [4, 8], [8, 9]]
noncomputable def zy18 : EnvT := ⟨Tryz.prog, zw [(50, zko), (51, zk2), (119, znq), (139, zvb)]⟩
theorem zh18 : (zy18).Ok := ze ⟨zk3, zkn, zq1, zzy, trivial⟩
def za18 : Ann := ⟨[], [], [], zv18, []⟩
def zp7 (a0 : Bank) (a1 : Int) (a2 : Int) : Tr (Bank × Int × Int) :=
  (.bind (zgb a0) fun v1 =>
  (.guard (((!v1) = false → ((zag a1).isSome = true) ∧ True))
  (.ite ((!v1) || (!((zag a1).getD default)))
    (.leaf (a0, 2, a2))
    (.bind (zeb a0) fun v2 =>
    (.ite (decide (v2.Waiting < a1))
      (.leaf (v2, 7, a2))
      (.bind (zeb v2) fun v3 =>
      (.bind (zjk ({ (v3 : Bank) with Waiting := IntKind.i64.wrap (v3.Waiting - a1) }) a2) fun v4 =>
      (.leaf ({ (v4.2.1 : Bank) with Free := (v4.2.1.Free.set v4.1 (IntKind.i64.wrap ((v4.2.1.Free.get v4.1) + a1))) }, 0, v4.2.2)))))))))
def zjm (a0 : Bank) (a1 : Int) (a2 : Int) : Option (Bank × Int × Int) := (zp7 a0 a1 a2).run
def zr18 : LQ (Bank × Int × Int) := (LQ.seq (Par.q (Par.ofLP bankL)) (LQ.skip (LQ.const (.fn 119 [])) (LQ.skip (LQ.const (.fn 139 [.ptr 0 0])) (LQ.seq (Par.q intP) (Par.q intP)))))
def zz2 : LQ (Bank × Int × Int) := (LQ.seq (Par.q (Par.ofLP bankL)) (LQ.seq (Par.q intP) (Par.q intP)))
def z2h : SpecT := zx 1 zr18 4 [.cells 3 1] (fun s => zp7 s.1 s.2.1 s.2.2) default zz2 2 [.cells 3 1]
theorem z86 : zj Tryz.prog 116 (z2h).spec :=
  zf (A := za18) zh18 Facts.mix Tryz.func116 (c := zc18) (by kernel_rfl) (Lc := 1) trivial zr18 4 5 [.cells 3 1] (fun s => zp7 s.1 s.2.1 s.2.2) default zz2 2 [.cells 3 1] [] (by decide) (by kernel_rfl) (by rfl) (by decide) (by decide) (by rfl)
    (by rintro ⟨a0, a1, a2⟩; kernel_rfl)
noncomputable def zc19 : Code := Tryz.f116.body.getD .skip
def zv19 : List (List Nat) := [[1, 2, 3, 4, 8], [1, 2, 3, 4, 8, 10], [8, 9], [1, 2, 3, 4, 8, 20], [8, 9], [2, 3, 4, 8], [4, 8], [8, 9]]
noncomputable def zy19 : EnvT := ⟨Tryz.prog, zw [(50, zko), (51, zk2), (118, zp3), (120, zxl)]⟩
theorem zh19 : (zy19).Ok := ze ⟨zk3, zkn, ztk, z2e, trivial⟩
def za19 : Ann := ⟨[], [], [], zv19, []⟩
def zp8 (a0 : Bank) (a1 : Int) : Tr (Bank × Int) :=
  (.bind (zgb a0) fun v1 =>
  (.guard (((!v1) = false → ((zag a1).isSome = true) ∧ True))
  (.ite ((!v1) || (!((zag a1).getD default)))
    (.leaf (a0, 2))
    (.bind (zfb a0) fun v2 =>
    (.ite (decide (v2.Bonded < a1))
      (.leaf (v2, 7))
      (.bind (zfb v2) fun v3 =>
      (.bind (zp4 ({ (v3 : Bank) with Bonded := IntKind.i64.wrap (v3.Bonded - a1) })) fun v4 =>
      (.leaf ({ (v4 : Bank) with Burnt := IntKind.i64.wrap (v4.Burnt + a1) }, 0)))))))))
def ztm (a0 : Bank) (a1 : Int) : Option (Bank × Int) := (zp8 a0 a1).run
def zr19 : LQ (Bank × Int) := (LQ.seq (Par.q (Par.ofLP bankL)) (LQ.skip (LQ.const (.fn 118 [])) (LQ.skip (LQ.const (.fn 120 [])) (Par.q intP))))
def zz3 : LQ (Bank × Int) := (LQ.seq (Par.q (Par.ofLP bankL)) (Par.q intP))
def z2i : SpecT := zx 0 zr19 4 [] (fun s => zp8 s.1 s.2) default zz3 2 []
theorem z87 : zj Tryz.prog 116 (z2i).spec :=
  zf (A := za19) zh19 Facts.mix Tryz.func116 (c := zc19) (by kernel_rfl) (Lc := 0) trivial zr19 4 4 [] (fun s => zp8 s.1 s.2) default zz3 2 [] [] (by decide) (by kernel_rfl) (by rfl) (by decide) (by decide) (by rfl)
    (by rintro ⟨a0, a1⟩; kernel_rfl)
noncomputable def zc20 : Code := Tryz.f116.body.getD .skip
def zv20 : List (List Nat) := [[1, 2, 3, 4, 8], [1, 2, 3, 4, 8, 10], [8, 9], [1, 2, 3, 4, 8, 20], [8, 9], [2, 3, 4, 8], [4, 8], [8, 9]]
noncomputable def zy20 : EnvT := ⟨Tryz.prog, zw [(50, zko), (51, zk2), (119, znq), (120, zxl)]⟩
theorem zh20 : (zy20).Ok := ze ⟨zk3, zkn, zq1, z2e, trivial⟩
def za20 : Ann := ⟨[], [], [], zv20, []⟩
def zp9 (a0 : Bank) (a1 : Int) : Tr (Bank × Int) :=
  (.bind (zgb a0) fun v1 =>
  (.guard (((!v1) = false → ((zag a1).isSome = true) ∧ True))
  (.ite ((!v1) || (!((zag a1).getD default)))
    (.leaf (a0, 2))
    (.bind (zeb a0) fun v2 =>
    (.ite (decide (v2.Waiting < a1))
      (.leaf (v2, 7))
      (.bind (zeb v2) fun v3 =>
      (.bind (zp4 ({ (v3 : Bank) with Waiting := IntKind.i64.wrap (v3.Waiting - a1) })) fun v4 =>
      (.leaf ({ (v4 : Bank) with Burnt := IntKind.i64.wrap (v4.Burnt + a1) }, 0)))))))))
def ztn (a0 : Bank) (a1 : Int) : Option (Bank × Int) := (zp9 a0 a1).run
def zr20 : LQ (Bank × Int) := (LQ.seq (Par.q (Par.ofLP bankL)) (LQ.skip (LQ.const (.fn 119 [])) (LQ.skip (LQ.const (.fn 120 [])) (Par.q intP))))
def zz4 : LQ (Bank × Int) := (LQ.seq (Par.q (Par.ofLP bankL)) (Par.q intP))
def z2j : SpecT := zx 0 zr20 4 [] (fun s => zp9 s.1 s.2) default zz4 2 []
theorem z88 : zj Tryz.prog 116 (z2j).spec :=
  zf (A := za20) zh20 Facts.mix Tryz.func116 (c := zc20) (by kernel_rfl) (Lc := 0) trivial zr20 4 4 [] (fun s => zp9 s.1 s.2) default zz4 2 [] [] (by decide) (by kernel_rfl) (by rfl) (by decide) (by decide) (by rfl)
    (by rintro ⟨a0, a1⟩; kernel_rfl)
def zq2 : SpecT := altT z2f (altT z2g (altT z2h (altT z2i (z2j))))
theorem zsm : zj Tryz.prog 116 (zq2).spec := zabc z84 (zabc z85 (zabc z86 (zabc z87 (z88))))
noncomputable def zc22 : Code := Tryz.f92.body.getD .skip
def zv22 : List (List Nat) := [[1, 2, 3, 6], [1, 2, 3, 6, 10], [6, 7], [6, 7]]
noncomputable def zy22 : EnvT := ⟨Tryz.prog, zw [(115, zo5), (117, z07), (116, zq2)]⟩
theorem zh22 : (zy22).Ok := ze ⟨zt7, z4m, zsm, trivial⟩
def za22 : Ann := ⟨[], [], [], zv22, []⟩
def zvc (a0 : Bank) (a1 : Int) (a2 : Int) : Tr (Bank × Int) :=
  (.bind (zim a1) fun v1 =>
  (.ite (!v1)
    (.leaf (a0, 4))
    (.guard ((zcj a1).isSome = true)
    (.guard ((zjl a0 a2 ((zcj a1).getD default)).isSome = true)
    (.leaf ((((zjl a0 a2 ((zcj a1).getD default)).getD default).1), ((zjl a0 a2 ((zcj a1).getD default)).getD default).2.1))))))
def zsn (a0 : Bank) (a1 : Int) (a2 : Int) : Option (Bank × Int) := (zvc a0 a1 a2).run
def zr22 : LQ (Bank × Int × Int) := (LQ.seq (Par.q (Par.ofLP bankL)) (LQ.seq (Par.q intP) (Par.q intP)))
def z4n : LQ (Bank × Int) := (LQ.seq (Par.q (Par.ofLP bankL)) (Par.q intP))
def z6y : SpecT := zx 0 zr22 3 [] (fun s => zvc s.1 s.2.1 s.2.2) default z4n 2 []
theorem zads : zj Tryz.prog 92 (z6y).spec :=
  zf (A := za22) zh22 Facts.mix Tryz.func92 (c := zc22) (by kernel_rfl) (Lc := 0) trivial zr22 3 5 [] (fun s => zvc s.1 s.2.1 s.2.2) default z4n 2 [] [] (by decide) (by kernel_rfl) (by rfl) (by decide) (by decide) (by rfl)
    (by rintro ⟨a0, a1, a2⟩; kernel_rfl)
noncomputable def zc23 : Code := Tryz.f93.body.getD .skip
def zv23 : List (List Nat) := [[1, 2, 4], [4, 5]]
noncomputable def zy23 : EnvT := ⟨Tryz.prog, zw [(116, zq2)]⟩
theorem zh23 : (zy23).Ok := ze ⟨zsm, trivial⟩
def za23 : Ann := ⟨[], [], [], zv23, []⟩
def zqa (a0 : Bank) (a1 : Int) : Tr (Bank × Int) :=
  (.bind (ztl a0 a1) fun v2 =>
  (.leaf (v2.1, v2.2)))
def zjn (a0 : Bank) (a1 : Int) : Option (Bank × Int) := (zqa a0 a1).run
def zr23 : LQ (Bank × Int) := (LQ.seq (Par.q (Par.ofLP bankL)) (Par.q intP))
def zz5 : LQ (Bank × Int) := (LQ.seq (Par.q (Par.ofLP bankL)) (Par.q intP))
def z2k : SpecT := zx 0 zr23 2 [] (fun s => zqa s.1 s.2) default zz5 2 []
theorem z89 : zj Tryz.prog 93 (z2k).spec :=
  zf (A := za23) zh23 Facts.mix Tryz.func93 (c := zc23) (by kernel_rfl) (Lc := 0) trivial zr23 2 4 [] (fun s => zqa s.1 s.2) default zz5 2 [] [] (by decide) (by kernel_rfl) (by rfl) (by decide) (by decide) (by rfl)
    (by rintro ⟨a0, a1⟩; kernel_rfl)
noncomputable def zc24 : Code := Tryz.f127.body.getD .skip
def zv24 : List (List Nat) := [[1, 2, 3, 6], [1, 2, 3, 6, 10], [6, 7], [6, 7]]
noncomputable def zy24 : EnvT := ⟨Tryz.prog, zw [(115, zo5), (117, z07), (116, zq2)]⟩
theorem zh24 : (zy24).Ok := ze ⟨zt7, z4m, zsm, trivial⟩
def za24 : Ann := ⟨[], [], [], zv24, []⟩
def zzc (a0 : Bank) (a1 : Int) (a2 : Int) : Tr (Bank × Int) :=
  (.bind (zim a1) fun v1 =>
  (.ite (!v1)
    (.leaf (a0, 4))
    (.guard ((zcj a1).isSome = true)
    (.guard ((zjm a0 a2 ((zcj a1).getD default)).isSome = true)
    (.leaf ((((zjm a0 a2 ((zcj a1).getD default)).getD default).1), ((zjm a0 a2 ((zcj a1).getD default)).getD default).2.1))))))
def z08 (a0 : Bank) (a1 : Int) (a2 : Int) : Option (Bank × Int) := (zzc a0 a1 a2).run
def zr24 : LQ (Bank × Int × Int) := (LQ.seq (Par.q (Par.ofLP bankL)) (LQ.seq (Par.q intP) (Par.q intP)))
def z6z : LQ (Bank × Int) := (LQ.seq (Par.q (Par.ofLP bankL)) (Par.q intP))
def z94 : SpecT := zx 0 zr24 3 [] (fun s => zzc s.1 s.2.1 s.2.2) default z6z 2 []
theorem zagc : zj Tryz.prog 127 (z94).spec :=
  zf (A := za24) zh24 Facts.mix Tryz.func127 (c := zc24) (by kernel_rfl) (Lc := 0) trivial zr24 3 5 [] (fun s => zzc s.1 s.2.1 s.2.2) default z6z 2 [] [] (by decide) (by kernel_rfl) (by rfl) (by decide) (by decide) (by rfl)
    (by rintro ⟨a0, a1, a2⟩; kernel_rfl)
noncomputable def zc25 : Code := Tryz.f96.body.getD .skip
def zv25 : List (List Nat) := [[1, 2, 3, 6], [2, 3, 6, 8, 9], [2, 3, 6, 8, 9, 17], [6, 7], [3, 6, 8, 9], [3, 6, 8, 9, 27], [6, 7], [6, 7]]
noncomputable def zy25 : EnvT := ⟨Tryz.prog, zw [(116, zq2)]⟩
theorem zh25 : (zy25).Ok := ze ⟨zsm, trivial⟩
def za25 : Ann := ⟨[], [], [], zv25, []⟩
def zvd (a0 : Bank) (a1 : Int) (a2 : Int) : Tr (Bank × Int) :=
  (.bind (ztm a0 a1) fun v4 =>
  (.ite (v4.2 != 0)
    (.leaf (a0, v4.2))
    (.bind (ztn v4.1 a2) fun v9 =>
    (.ite (v9.2 != 0)
      (.leaf (a0, v9.2))
      (.leaf (v9.1, 0))))))
def zxm (a0 : Bank) (a1 : Int) (a2 : Int) : Option (Bank × Int) := (zvd a0 a1 a2).run
def zr25 : LQ (Bank × Int × Int) := (LQ.seq (Par.q (Par.ofLP bankL)) (LQ.seq (Par.q intP) (Par.q intP)))
def z4o : LQ (Bank × Int) := (LQ.seq (Par.q (Par.ofLP bankL)) (Par.q intP))
def z60 : SpecT := zx 0 zr25 3 [] (fun s => zvd s.1 s.2.1 s.2.2) default z4o 2 []
theorem zadt : zj Tryz.prog 96 (z60).spec :=
  zf (A := za25) zh25 Facts.mix Tryz.func96 (c := zc25) (by kernel_rfl) (Lc := 0) trivial zr25 3 5 [] (fun s => zvd s.1 s.2.1 s.2.2) default z4o 2 [] [] (by decide) (by kernel_rfl) (by rfl) (by decide) (by decide) (by rfl)
    (by rintro ⟨a0, a1, a2⟩; kernel_rfl)
noncomputable def zc26 : Code := Tryz.f32.body.getD .skip
def zv26 : List (List Nat) := [[0], [2]]
noncomputable def zy26 : EnvT := ⟨Tryz.prog, zw []⟩
theorem zh26 : (zy26).Ok := ze trivial
def za26 : Ann := ⟨[], [], [], zv26, []⟩
def zin (a0 : Int) : Tr (Int) :=
  (.guard ((5 : Int) ≠ 0)
  (.leaf (if (IntKind.i64.wrap (Int.tdiv a0 5)) > 1 then (IntKind.i64.wrap (Int.tdiv a0 5)) else 1)))
def zli (a0 : Int) : Option (Int) := (zin a0).run
def zr26 : LQ (Int) := (Par.q intP)
def zso : LQ (Int) := (Par.q intP)
def zt8 : SpecT := zx 0 zr26 1 [] (fun s => zin s) default zso 1 []
theorem z2l : zj Tryz.prog 32 (zt8).spec :=
  zf (A := za26) zh26 Facts.mix Tryz.func32 (c := zc26) (by kernel_rfl) (Lc := 0) trivial zr26 1 2 [] (fun s => zin s) default zso 1 [] [] (by decide) (by kernel_rfl) (by rfl) (by decide) (by decide) (by rfl)
    (by rintro a0; kernel_rfl)
noncomputable def zc27 : Code := Tryz.f67.body.getD .skip
def zv27 : List (List Nat) := [[0, 1, 4], [4]]
noncomputable def zy27 : EnvT := ⟨Tryz.prog, zw [(32, zt8)]⟩
theorem zh27 : (zy27).Ok := ze ⟨z2l, trivial⟩
def za27 : Ann := ⟨[], [], [], zv27, []⟩
def zve (a0 : Int) (a1 : Int) : Tr (Meter) :=
  (.bind (zli a0) fun v1 =>
  (.leaf (⟨v1, IntKind.i64.wrap (a1 + 10)⟩ : Meter)))
def zsp (a0 : Int) (a1 : Int) : Option (Meter) := (zve a0 a1).run
def zr27 : LQ (Int × Int) := (LQ.seq (Par.q intP) (Par.q intP))
def z4p : LQ (Meter) := (Par.q (Par.ofLP meterL))
def z09 : SpecT := zx 0 zr27 2 [] (fun s => zve s.1 s.2) default z4p 1 []
theorem z4q : zj Tryz.prog 67 (z09).spec :=
  zf (A := za27) zh27 Facts.mix Tryz.func67 (c := zc27) (by kernel_rfl) (Lc := 0) trivial zr27 2 3 [] (fun s => zve s.1 s.2) default z4p 1 [] [] (by decide) (by kernel_rfl) (by rfl) (by decide) (by decide) (by rfl)
    (by rintro ⟨a0, a1⟩; kernel_rfl)
noncomputable def zc28 : Code := Tryz.f97.body.getD .skip
def zv28 : List (List Nat) := [[1, 2, 3, 6], [1, 2, 3, 6, 10], [6], [6]]
noncomputable def zy28 : EnvT := ⟨Tryz.prog, zw [(67, z09)]⟩
theorem zh28 : (zy28).Ok := ze ⟨z4q, trivial⟩
def za28 : Ann := ⟨[], [], [], zv28, []⟩
def zsq (a0 : Meter) (a1 : Int) (a2 : Int) : Tr (Meter) :=
  (.ite (decide (a2 ≥ a0.Next))
    (.bind (zsp a1 a2) fun v1 =>
    (.leaf v1))
    (.leaf a0))
def zqb (a0 : Meter) (a1 : Int) (a2 : Int) : Option (Meter) := (zsq a0 a1 a2).run
def zr28 : LQ (Meter × Int × Int) := (LQ.seq (Par.q (Par.ofLP meterL)) (LQ.seq (Par.q intP) (Par.q intP)))
def z2m : LQ (Meter) := (Par.q (Par.ofLP meterL))
def z4r : SpecT := zx 0 zr28 3 [] (fun s => zsq s.1 s.2.1 s.2.2) default z2m 1 []
theorem zabv : zj Tryz.prog 97 (z4r).spec :=
  zf (A := za28) zh28 Facts.mix Tryz.func97 (c := zc28) (by kernel_rfl) (Lc := 0) trivial zr28 3 4 [] (fun s => zsq s.1 s.2.1 s.2.2) default z2m 1 [] [] (by decide) (by kernel_rfl) (by rfl) (by decide) (by decide) (by rfl)
    (by rintro ⟨a0, a1, a2⟩; kernel_rfl)
noncomputable def zc29 : Code := Tryz.f122.body.getD .skip
def zv29 : List (List Nat) := [[1, 2, 4], [1, 2, 4, 8], [4, 5], [2, 4], [4, 5]]
noncomputable def zy29 : EnvT := ⟨Tryz.prog, zw []⟩
theorem zh29 : (zy29).Ok := ze trivial
def za29 : Ann := ⟨[], [], [], zv29, []⟩
def zsr (a0 : Meter) (a1 : Int) : Tr (Meter × Bool) :=
  (.ite (decide (a0.Left ≤ 0))
    (.leaf (a0, false))
    (.leaf ((⟨IntKind.i64.wrap (a0.Left - a1), a0.Next⟩ : Meter), true)))
def zio (a0 : Meter) (a1 : Int) : Option (Meter × Bool) := (zsr a0 a1).run
def zr29 : LQ (Meter × Int) := (LQ.seq (Par.q (Par.ofLP meterL)) (Par.q intP))
def z2n : LQ (Meter × Bool) := (LQ.seq (Par.q (Par.ofLP meterL)) (Par.q boolP))
def z4s : SpecT := zx 0 zr29 2 [] (fun s => zsr s.1 s.2) default z2n 2 []
theorem zabw : zj Tryz.prog 122 (z4s).spec :=
  zf (A := za29) zh29 Facts.mix Tryz.func122 (c := zc29) (by kernel_rfl) (Lc := 0) trivial zr29 2 4 [] (fun s => zsr s.1 s.2) default z2n 2 [] [] (by decide) (by kernel_rfl) (by rfl) (by decide) (by decide) (by rfl)
    (by rintro ⟨a0, a1⟩; kernel_rfl)
end
end Go.Proofs.YtmakmlnfbdablaaGreat.Ab
