/-
  The functions, each by its tree.
-/
import Derived.Test.YtmakmlnfbdablaaGreatXAbFun
import Derived.Test.YtmakmlnfbdablaaGreatXAbStructs
import Derived.Test.YtmakmlnfbdablaaGreatXFacts
namespace Go.Proofs.YtmakmlnfbdablaaGreat.Ab
open Go Go.RowKit
set_option maxRecDepth 100000
set_option linter.unusedVariables false
set_option linter.unusedSimpArgs false
noncomputable section
noncomputable def zc0 : Code := Tryz.f51.body.getD .skip
def zv0 : List (List Nat) := [[0], [2]]
noncomputable def zy0 : EnvT := ⟨Tryz.prog, zt []⟩
theorem zh0 : (zy0).Ok := zd trivial
def za0 : Ann := ⟨[], [], [], zv0, []⟩
def zwn (a0 : Int) : Tr (Bool) :=
  (.leaf ((decide (a0 ≥ 0)) && (decide (a0 ≤ 1125899906842624))))
def zaa (a0 : Int) : Option (Bool) := (zwn a0).run
def zr0 : LQ (Int) := (Par.q intP)
def z4f : LQ (Bool) := (Par.q boolP)
def zjt : SpecT := zu 0 zr0 1 [] (fun s => zwn s) default z4f 1 []
theorem zjg : zh Tryz.prog 51 (zjt).spec :=
  ze (A := za0) zh0 Facts.mix Tryz.func51 (c := zc0) (by kernel_rfl) (Lc := 0) trivial zr0 1 2 [] (fun s => zwn s) default z4f 1 [] [] (by decide) (by kernel_rfl) (by rfl) (by decide) (by decide) (by rfl)
    (by rintro a0; kernel_rfl)
noncomputable def zc1 : Code := Tryz.f113.body.getD .skip
def zv1 : List (List Nat) := [[0, 1], [0, 1, 6], [0, 1, 6, 7], [0, 1, 6, 7, 8], [0, 1, 6, 7, 8, 9], [0, 1, 6, 7, 8, 9, 10], [0, 1, 6, 7, 9, 11], [0, 1, 6, 7, 9, 11, 12], [0, 1, 6, 7, 9, 12, 13], [0, 1, 7, 9, 12, 13], [0, 1, 4], [4, 5]]
noncomputable def zy1 : EnvT := ⟨Tryz.prog, zt []⟩
theorem zh1 : (zy1).Ok := zd trivial
def za1 : Ann := ⟨[], [], [], zv1, []⟩
def zhg (a0 : Int) (a1 : Int) : Tr (Int × Int) :=
  (.guard ((0 : Int) ≤ 32)
  (.guard ((0 : Int) ≤ 32)
  (.guard ((0 : Int) ≤ 32)
  (.guard ((0 : Int) ≤ 32)
  (.guard ((0 : Int) ≤ 32)
  (.leaf (IntKind.u64.wrap ((IntKind.u64.wrap ((IntKind.u64.wrap ((Int.fdiv a0 (2 ^ 32)) * (Int.fdiv a1 (2 ^ 32)))) + (Int.fdiv (IntKind.u64.wrap ((IntKind.u64.wrap ((Int.fdiv a0 (2 ^ 32)) * (IntKind.u64.wrap (((BitVec.ofInt 64 a1 &&& BitVec.ofInt 64 4294967295).toNat : Nat) : Int)))) + (Int.fdiv (IntKind.u64.wrap ((IntKind.u64.wrap (((BitVec.ofInt 64 a0 &&& BitVec.ofInt 64 4294967295).toNat : Nat) : Int)) * (IntKind.u64.wrap (((BitVec.ofInt 64 a1 &&& BitVec.ofInt 64 4294967295).toNat : Nat) : Int)))) (2 ^ 32)))) (2 ^ 32)))) + (Int.fdiv (IntKind.u64.wrap ((IntKind.u64.wrap (((BitVec.ofInt 64 (IntKind.u64.wrap ((IntKind.u64.wrap ((Int.fdiv a0 (2 ^ 32)) * (IntKind.u64.wrap (((BitVec.ofInt 64 a1 &&& BitVec.ofInt 64 4294967295).toNat : Nat) : Int)))) + (Int.fdiv (IntKind.u64.wrap ((IntKind.u64.wrap (((BitVec.ofInt 64 a0 &&& BitVec.ofInt 64 4294967295).toNat : Nat) : Int)) * (IntKind.u64.wrap (((BitVec.ofInt 64 a1 &&& BitVec.ofInt 64 4294967295).toNat : Nat) : Int)))) (2 ^ 32)))) &&& BitVec.ofInt 64 4294967295).toNat : Nat) : Int)) + (IntKind.u64.wrap ((IntKind.u64.wrap (((BitVec.ofInt 64 a0 &&& BitVec.ofInt 64 4294967295).toNat : Nat) : Int)) * (Int.fdiv a1 (2 ^ 32)))))) (2 ^ 32))), IntKind.u64.wrap (a0 * a1))))))))
def zj3 (a0 : Int) (a1 : Int) : Option (Int × Int) := (zhg a0 a1).run
def zr1 : LQ (Int × Int) := (LQ.seq (Par.q (kP .u64)) (Par.q (kP .u64)))
def zp8 : LQ (Int × Int) := (LQ.seq (Par.q (kP .u64)) (Par.q (kP .u64)))
def zrr : SpecT := zu 0 zr1 2 [] (fun s => zhg s.1 s.2) default zp8 2 []
theorem zz3 : zh Tryz.prog 113 (zrr).spec :=
  ze (A := za1) zh1 Facts.mix Tryz.func113 (c := zc1) (by kernel_rfl) (Lc := 0) trivial zr1 2 2 [] (fun s => zhg s.1 s.2) default zp8 2 [] [] (by decide) (by kernel_rfl) (by rfl) (by decide) (by decide) (by rfl)
    (by rintro ⟨a0, a1⟩; kernel_rfl)
noncomputable def zc2 : Code := Tryz.f151.body.getD .skip
def zv2 : List (List Nat) := [[0, 2], [0, 2, 4], [0], [0, 2], [0, 2, 8], [0, 2], [0, 2], [0, 2, 14], [0, 2], [0, 2], [2]]
noncomputable def zy2 : EnvT := ⟨Tryz.prog, zt []⟩
theorem zh2 : (zy2).Ok := zd trivial
def za2 : Ann := ⟨[], [], [], zv2, []⟩
def zhh (a0 : Int) : Tr (Int) :=
  (.ite (decide (a0 ≥ 4294967296))
    (.guard ((0 : Int) ≤ 32)
    (.ite (decide ((Int.fdiv a0 (2 ^ 32)) ≥ 65536))
      (.guard ((0 : Int) ≤ 16)
      (.ite (decide ((Int.fdiv (Int.fdiv a0 (2 ^ 32)) (2 ^ 16)) ≥ 256))
        (.guard ((0 : Int) ≤ 8)
        (.guard ((0 : Int) ≤ (IntKind.u8.wrap (Int.fdiv (Int.fdiv (Int.fdiv a0 (2 ^ 32)) (2 ^ 16)) (2 ^ 8))) ∧ (IntKind.u8.wrap (Int.fdiv (Int.fdiv (Int.fdiv a0 (2 ^ 32)) (2 ^ 16)) (2 ^ 8))) < (((⟨[0, 1, 2, 2, 3, 3, 3, 3, 4, 4, 4, 4, 4, 4, 4, 4, 5, 5, 5, 5, 5, 5, 5, 5, 5, 5, 5, 5, 5, 5, 5, 5, 6, 6, 6, 6, 6, 6, 6, 6, 6, 6, 6, 6, 6, 6, 6, 6, 6, 6, 6, 6, 6, 6, 6, 6, 6, 6, 6, 6, 6, 6, 6, 6, 7, 7, 7, 7, 7, 7, 7, 7, 7, 7, 7, 7, 7, 7, 7, 7, 7, 7, 7, 7, 7, 7, 7, 7, 7, 7, 7, 7, 7, 7, 7, 7, 7, 7, 7, 7, 7, 7, 7, 7, 7, 7, 7, 7, 7, 7, 7, 7, 7, 7, 7, 7, 7, 7, 7, 7, 7, 7, 7, 7, 7, 7, 7, 7, 8, 8, 8, 8, 8, 8, 8, 8, 8, 8, 8, 8, 8, 8, 8, 8, 8, 8, 8, 8, 8, 8, 8, 8, 8, 8, 8, 8, 8, 8, 8, 8, 8, 8, 8, 8, 8, 8, 8, 8, 8, 8, 8, 8, 8, 8, 8, 8, 8, 8, 8, 8, 8, 8, 8, 8, 8, 8, 8, 8, 8, 8, 8, 8, 8, 8, 8, 8, 8, 8, 8, 8, 8, 8, 8, 8, 8, 8, 8, 8, 8, 8, 8, 8, 8, 8, 8, 8, 8, 8, 8, 8, 8, 8, 8, 8, 8, 8, 8, 8, 8, 8, 8, 8, 8, 8, 8, 8, 8, 8, 8, 8, 8, 8, 8, 8, 8, 8, 8, 8, 8, 8, 8, 8, 8, 8, 8, 8].toArray⟩ : ByteArray).size : Nat) : Int))
        (.leaf (IntKind.i64.wrap (56 + (IntKind.i64.wrap ((((⟨[0, 1, 2, 2, 3, 3, 3, 3, 4, 4, 4, 4, 4, 4, 4, 4, 5, 5, 5, 5, 5, 5, 5, 5, 5, 5, 5, 5, 5, 5, 5, 5, 6, 6, 6, 6, 6, 6, 6, 6, 6, 6, 6, 6, 6, 6, 6, 6, 6, 6, 6, 6, 6, 6, 6, 6, 6, 6, 6, 6, 6, 6, 6, 6, 7, 7, 7, 7, 7, 7, 7, 7, 7, 7, 7, 7, 7, 7, 7, 7, 7, 7, 7, 7, 7, 7, 7, 7, 7, 7, 7, 7, 7, 7, 7, 7, 7, 7, 7, 7, 7, 7, 7, 7, 7, 7, 7, 7, 7, 7, 7, 7, 7, 7, 7, 7, 7, 7, 7, 7, 7, 7, 7, 7, 7, 7, 7, 7, 8, 8, 8, 8, 8, 8, 8, 8, 8, 8, 8, 8, 8, 8, 8, 8, 8, 8, 8, 8, 8, 8, 8, 8, 8, 8, 8, 8, 8, 8, 8, 8, 8, 8, 8, 8, 8, 8, 8, 8, 8, 8, 8, 8, 8, 8, 8, 8, 8, 8, 8, 8, 8, 8, 8, 8, 8, 8, 8, 8, 8, 8, 8, 8, 8, 8, 8, 8, 8, 8, 8, 8, 8, 8, 8, 8, 8, 8, 8, 8, 8, 8, 8, 8, 8, 8, 8, 8, 8, 8, 8, 8, 8, 8, 8, 8, 8, 8, 8, 8, 8, 8, 8, 8, 8, 8, 8, 8, 8, 8, 8, 8, 8, 8, 8, 8, 8, 8, 8, 8, 8, 8, 8, 8, 8, 8, 8, 8].toArray⟩ : ByteArray).data.toList.getD (IntKind.u8.wrap (Int.fdiv (Int.fdiv (Int.fdiv a0 (2 ^ 32)) (2 ^ 16)) (2 ^ 8))).toNat 0).toNat : Nat) : Int)))))))
        (.guard ((0 : Int) ≤ (IntKind.u8.wrap (Int.fdiv (Int.fdiv a0 (2 ^ 32)) (2 ^ 16))) ∧ (IntKind.u8.wrap (Int.fdiv (Int.fdiv a0 (2 ^ 32)) (2 ^ 16))) < (((⟨[0, 1, 2, 2, 3, 3, 3, 3, 4, 4, 4, 4, 4, 4, 4, 4, 5, 5, 5, 5, 5, 5, 5, 5, 5, 5, 5, 5, 5, 5, 5, 5, 6, 6, 6, 6, 6, 6, 6, 6, 6, 6, 6, 6, 6, 6, 6, 6, 6, 6, 6, 6, 6, 6, 6, 6, 6, 6, 6, 6, 6, 6, 6, 6, 7, 7, 7, 7, 7, 7, 7, 7, 7, 7, 7, 7, 7, 7, 7, 7, 7, 7, 7, 7, 7, 7, 7, 7, 7, 7, 7, 7, 7, 7, 7, 7, 7, 7, 7, 7, 7, 7, 7, 7, 7, 7, 7, 7, 7, 7, 7, 7, 7, 7, 7, 7, 7, 7, 7, 7, 7, 7, 7, 7, 7, 7, 7, 7, 8, 8, 8, 8, 8, 8, 8, 8, 8, 8, 8, 8, 8, 8, 8, 8, 8, 8, 8, 8, 8, 8, 8, 8, 8, 8, 8, 8, 8, 8, 8, 8, 8, 8, 8, 8, 8, 8, 8, 8, 8, 8, 8, 8, 8, 8, 8, 8, 8, 8, 8, 8, 8, 8, 8, 8, 8, 8, 8, 8, 8, 8, 8, 8, 8, 8, 8, 8, 8, 8, 8, 8, 8, 8, 8, 8, 8, 8, 8, 8, 8, 8, 8, 8, 8, 8, 8, 8, 8, 8, 8, 8, 8, 8, 8, 8, 8, 8, 8, 8, 8, 8, 8, 8, 8, 8, 8, 8, 8, 8, 8, 8, 8, 8, 8, 8, 8, 8, 8, 8, 8, 8, 8, 8, 8, 8, 8, 8].toArray⟩ : ByteArray).size : Nat) : Int))
        (.leaf (IntKind.i64.wrap (48 + (IntKind.i64.wrap ((((⟨[0, 1, 2, 2, 3, 3, 3, 3, 4, 4, 4, 4, 4, 4, 4, 4, 5, 5, 5, 5, 5, 5, 5, 5, 5, 5, 5, 5, 5, 5, 5, 5, 6, 6, 6, 6, 6, 6, 6, 6, 6, 6, 6, 6, 6, 6, 6, 6, 6, 6, 6, 6, 6, 6, 6, 6, 6, 6, 6, 6, 6, 6, 6, 6, 7, 7, 7, 7, 7, 7, 7, 7, 7, 7, 7, 7, 7, 7, 7, 7, 7, 7, 7, 7, 7, 7, 7, 7, 7, 7, 7, 7, 7, 7, 7, 7, 7, 7, 7, 7, 7, 7, 7, 7, 7, 7, 7, 7, 7, 7, 7, 7, 7, 7, 7, 7, 7, 7, 7, 7, 7, 7, 7, 7, 7, 7, 7, 7, 8, 8, 8, 8, 8, 8, 8, 8, 8, 8, 8, 8, 8, 8, 8, 8, 8, 8, 8, 8, 8, 8, 8, 8, 8, 8, 8, 8, 8, 8, 8, 8, 8, 8, 8, 8, 8, 8, 8, 8, 8, 8, 8, 8, 8, 8, 8, 8, 8, 8, 8, 8, 8, 8, 8, 8, 8, 8, 8, 8, 8, 8, 8, 8, 8, 8, 8, 8, 8, 8, 8, 8, 8, 8, 8, 8, 8, 8, 8, 8, 8, 8, 8, 8, 8, 8, 8, 8, 8, 8, 8, 8, 8, 8, 8, 8, 8, 8, 8, 8, 8, 8, 8, 8, 8, 8, 8, 8, 8, 8, 8, 8, 8, 8, 8, 8, 8, 8, 8, 8, 8, 8, 8, 8, 8, 8, 8, 8].toArray⟩ : ByteArray).data.toList.getD (IntKind.u8.wrap (Int.fdiv (Int.fdiv a0 (2 ^ 32)) (2 ^ 16))).toNat 0).toNat : Nat) : Int))))))))
      (.ite (decide ((Int.fdiv a0 (2 ^ 32)) ≥ 256))
        (.guard ((0 : Int) ≤ 8)
        (.guard ((0 : Int) ≤ (IntKind.u8.wrap (Int.fdiv (Int.fdiv a0 (2 ^ 32)) (2 ^ 8))) ∧ (IntKind.u8.wrap (Int.fdiv (Int.fdiv a0 (2 ^ 32)) (2 ^ 8))) < (((⟨[0, 1, 2, 2, 3, 3, 3, 3, 4, 4, 4, 4, 4, 4, 4, 4, 5, 5, 5, 5, 5, 5, 5, 5, 5, 5, 5, 5, 5, 5, 5, 5, 6, 6, 6, 6, 6, 6, 6, 6, 6, 6, 6, 6, 6, 6, 6, 6, 6, 6, 6, 6, 6, 6, 6, 6, 6, 6, 6, 6, 6, 6, 6, 6, 7, 7, 7, 7, 7, 7, 7, 7, 7, 7, 7, 7, 7, 7, 7, 7, 7, 7, 7, 7, 7, 7, 7, 7, 7, 7, 7, 7, 7, 7, 7, 7, 7, 7, 7, 7, 7, 7, 7, 7, 7, 7, 7, 7, 7, 7, 7, 7, 7, 7, 7, 7, 7, 7, 7, 7, 7, 7, 7, 7, 7, 7, 7, 7, 8, 8, 8, 8, 8, 8, 8, 8, 8, 8, 8, 8, 8, 8, 8, 8, 8, 8, 8, 8, 8, 8, 8, 8, 8, 8, 8, 8, 8, 8, 8, 8, 8, 8, 8, 8, 8, 8, 8, 8, 8, 8, 8, 8, 8, 8, 8, 8, 8, 8, 8, 8, 8, 8, 8, 8, 8, 8, 8, 8, 8, 8, 8, 8, 8, 8, 8, 8, 8, 8, 8, 8, 8, 8, 8, 8, 8, 8, 8, 8, 8, 8, 8, 8, 8, 8, 8, 8, 8, 8, 8, 8, 8, 8, 8, 8, 8, 8, 8, 8, 8, 8, 8, 8, 8, 8, 8, 8, 8, 8, 8, 8, 8, 8, 8, 8, 8, 8, 8, 8, 8, 8, 8, 8, 8, 8, 8, 8].toArray⟩ : ByteArray).size : Nat) : Int))
        (.leaf (IntKind.i64.wrap (40 + (IntKind.i64.wrap ((((⟨[0, 1, 2, 2, 3, 3, 3, 3, 4, 4, 4, 4, 4, 4, 4, 4, 5, 5, 5, 5, 5, 5, 5, 5, 5, 5, 5, 5, 5, 5, 5, 5, 6, 6, 6, 6, 6, 6, 6, 6, 6, 6, 6, 6, 6, 6, 6, 6, 6, 6, 6, 6, 6, 6, 6, 6, 6, 6, 6, 6, 6, 6, 6, 6, 7, 7, 7, 7, 7, 7, 7, 7, 7, 7, 7, 7, 7, 7, 7, 7, 7, 7, 7, 7, 7, 7, 7, 7, 7, 7, 7, 7, 7, 7, 7, 7, 7, 7, 7, 7, 7, 7, 7, 7, 7, 7, 7, 7, 7, 7, 7, 7, 7, 7, 7, 7, 7, 7, 7, 7, 7, 7, 7, 7, 7, 7, 7, 7, 8, 8, 8, 8, 8, 8, 8, 8, 8, 8, 8, 8, 8, 8, 8, 8, 8, 8, 8, 8, 8, 8, 8, 8, 8, 8, 8, 8, 8, 8, 8, 8, 8, 8, 8, 8, 8, 8, 8, 8, 8, 8, 8, 8, 8, 8, 8, 8, 8, 8, 8, 8, 8, 8, 8, 8, 8, 8, 8, 8, 8, 8, 8, 8, 8, 8, 8, 8, 8, 8, 8, 8, 8, 8, 8, 8, 8, 8, 8, 8, 8, 8, 8, 8, 8, 8, 8, 8, 8, 8, 8, 8, 8, 8, 8, 8, 8, 8, 8, 8, 8, 8, 8, 8, 8, 8, 8, 8, 8, 8, 8, 8, 8, 8, 8, 8, 8, 8, 8, 8, 8, 8, 8, 8, 8, 8, 8, 8].toArray⟩ : ByteArray).data.toList.getD (IntKind.u8.wrap (Int.fdiv (Int.fdiv a0 (2 ^ 32)) (2 ^ 8))).toNat 0).toNat : Nat) : Int)))))))
        (.guard ((0 : Int) ≤ (IntKind.u8.wrap (Int.fdiv a0 (2 ^ 32))) ∧ (IntKind.u8.wrap (Int.fdiv a0 (2 ^ 32))) < (((⟨[0, 1, 2, 2, 3, 3, 3, 3, 4, 4, 4, 4, 4, 4, 4, 4, 5, 5, 5, 5, 5, 5, 5, 5, 5, 5, 5, 5, 5, 5, 5, 5, 6, 6, 6, 6, 6, 6, 6, 6, 6, 6, 6, 6, 6, 6, 6, 6, 6, 6, 6, 6, 6, 6, 6, 6, 6, 6, 6, 6, 6, 6, 6, 6, 7, 7, 7, 7, 7, 7, 7, 7, 7, 7, 7, 7, 7, 7, 7, 7, 7, 7, 7, 7, 7, 7, 7, 7, 7, 7, 7, 7, 7, 7, 7, 7, 7, 7, 7, 7, 7, 7, 7, 7, 7, 7, 7, 7, 7, 7, 7, 7, 7, 7, 7, 7, 7, 7, 7, 7, 7, 7, 7, 7, 7, 7, 7, 7, 8, 8, 8, 8, 8, 8, 8, 8, 8, 8, 8, 8, 8, 8, 8, 8, 8, 8, 8, 8, 8, 8, 8, 8, 8, 8, 8, 8, 8, 8, 8, 8, 8, 8, 8, 8, 8, 8, 8, 8, 8, 8, 8, 8, 8, 8, 8, 8, 8, 8, 8, 8, 8, 8, 8, 8, 8, 8, 8, 8, 8, 8, 8, 8, 8, 8, 8, 8, 8, 8, 8, 8, 8, 8, 8, 8, 8, 8, 8, 8, 8, 8, 8, 8, 8, 8, 8, 8, 8, 8, 8, 8, 8, 8, 8, 8, 8, 8, 8, 8, 8, 8, 8, 8, 8, 8, 8, 8, 8, 8, 8, 8, 8, 8, 8, 8, 8, 8, 8, 8, 8, 8, 8, 8, 8, 8, 8, 8].toArray⟩ : ByteArray).size : Nat) : Int))
        (.leaf (IntKind.i64.wrap (32 + (IntKind.i64.wrap ((((⟨[0, 1, 2, 2, 3, 3, 3, 3, 4, 4, 4, 4, 4, 4, 4, 4, 5, 5, 5, 5, 5, 5, 5, 5, 5, 5, 5, 5, 5, 5, 5, 5, 6, 6, 6, 6, 6, 6, 6, 6, 6, 6, 6, 6, 6, 6, 6, 6, 6, 6, 6, 6, 6, 6, 6, 6, 6, 6, 6, 6, 6, 6, 6, 6, 7, 7, 7, 7, 7, 7, 7, 7, 7, 7, 7, 7, 7, 7, 7, 7, 7, 7, 7, 7, 7, 7, 7, 7, 7, 7, 7, 7, 7, 7, 7, 7, 7, 7, 7, 7, 7, 7, 7, 7, 7, 7, 7, 7, 7, 7, 7, 7, 7, 7, 7, 7, 7, 7, 7, 7, 7, 7, 7, 7, 7, 7, 7, 7, 8, 8, 8, 8, 8, 8, 8, 8, 8, 8, 8, 8, 8, 8, 8, 8, 8, 8, 8, 8, 8, 8, 8, 8, 8, 8, 8, 8, 8, 8, 8, 8, 8, 8, 8, 8, 8, 8, 8, 8, 8, 8, 8, 8, 8, 8, 8, 8, 8, 8, 8, 8, 8, 8, 8, 8, 8, 8, 8, 8, 8, 8, 8, 8, 8, 8, 8, 8, 8, 8, 8, 8, 8, 8, 8, 8, 8, 8, 8, 8, 8, 8, 8, 8, 8, 8, 8, 8, 8, 8, 8, 8, 8, 8, 8, 8, 8, 8, 8, 8, 8, 8, 8, 8, 8, 8, 8, 8, 8, 8, 8, 8, 8, 8, 8, 8, 8, 8, 8, 8, 8, 8, 8, 8, 8, 8, 8, 8].toArray⟩ : ByteArray).data.toList.getD (IntKind.u8.wrap (Int.fdiv a0 (2 ^ 32))).toNat 0).toNat : Nat) : Int)))))))))
    (.ite (decide (a0 ≥ 65536))
      (.guard ((0 : Int) ≤ 16)
      (.ite (decide ((Int.fdiv a0 (2 ^ 16)) ≥ 256))
        (.guard ((0 : Int) ≤ 8)
        (.guard ((0 : Int) ≤ (IntKind.u8.wrap (Int.fdiv (Int.fdiv a0 (2 ^ 16)) (2 ^ 8))) ∧ (IntKind.u8.wrap (Int.fdiv (Int.fdiv a0 (2 ^ 16)) (2 ^ 8))) < (((⟨[0, 1, 2, 2, 3, 3, 3, 3, 4, 4, 4, 4, 4, 4, 4, 4, 5, 5, 5, 5, 5, 5, 5, 5, 5, 5, 5, 5, 5, 5, 5, 5, 6, 6, 6, 6, 6, 6, 6, 6, 6, 6, 6, 6, 6, 6, 6, 6, 6, 6, 6, 6, 6, 6, 6, 6, 6, 6, 6, 6, 6, 6, 6, 6, 7, 7, 7, 7, 7, 7, 7, 7, 7, 7, 7, 7, 7, 7, 7, 7, 7, 7, 7, 7, 7, 7, 7, 7, 7, 7, 7, 7, 7, 7, 7, 7, 7, 7, 7, 7, 7, 7, 7, 7, 7, 7, 7, 7, 7, 7, 7, 7, 7, 7, 7, 7, 7, 7, 7, 7, 7, 7, 7, 7, 7, 7, 7, 7, 8, 8, 8, 8, 8, 8, 8, 8, 8, 8, 8, 8, 8, 8, 8, 8, 8, 8, 8, 8, 8, 8, 8, 8, 8, 8, 8, 8, 8, 8, 8, 8, 8, 8, 8, 8, 8, 8, 8, 8, 8, 8, 8, 8, 8, 8, 8, 8, 8, 8, 8, 8, 8, 8, 8, 8, 8, 8, 8, 8, 8, 8, 8, 8, 8, 8, 8, 8, 8, 8, 8, 8, 8, 8, 8, 8, 8, 8, 8, 8, 8, 8, 8, 8, 8, 8, 8, 8, 8, 8, 8, 8, 8, 8, 8, 8, 8, 8, 8, 8, 8, 8, 8, 8, 8, 8, 8, 8, 8, 8, 8, 8, 8, 8, 8, 8, 8, 8, 8, 8, 8, 8, 8, 8, 8, 8, 8, 8].toArray⟩ : ByteArray).size : Nat) : Int))
        (.leaf (IntKind.i64.wrap (24 + (IntKind.i64.wrap ((((⟨[0, 1, 2, 2, 3, 3, 3, 3, 4, 4, 4, 4, 4, 4, 4, 4, 5, 5, 5, 5, 5, 5, 5, 5, 5, 5, 5, 5, 5, 5, 5, 5, 6, 6, 6, 6, 6, 6, 6, 6, 6, 6, 6, 6, 6, 6, 6, 6, 6, 6, 6, 6, 6, 6, 6, 6, 6, 6, 6, 6, 6, 6, 6, 6, 7, 7, 7, 7, 7, 7, 7, 7, 7, 7, 7, 7, 7, 7, 7, 7, 7, 7, 7, 7, 7, 7, 7, 7, 7, 7, 7, 7, 7, 7, 7, 7, 7, 7, 7, 7, 7, 7, 7, 7, 7, 7, 7, 7, 7, 7, 7, 7, 7, 7, 7, 7, 7, 7, 7, 7, 7, 7, 7, 7, 7, 7, 7, 7, 8, 8, 8, 8, 8, 8, 8, 8, 8, 8, 8, 8, 8, 8, 8, 8, 8, 8, 8, 8, 8, 8, 8, 8, 8, 8, 8, 8, 8, 8, 8, 8, 8, 8, 8, 8, 8, 8, 8, 8, 8, 8, 8, 8, 8, 8, 8, 8, 8, 8, 8, 8, 8, 8, 8, 8, 8, 8, 8, 8, 8, 8, 8, 8, 8, 8, 8, 8, 8, 8, 8, 8, 8, 8, 8, 8, 8, 8, 8, 8, 8, 8, 8, 8, 8, 8, 8, 8, 8, 8, 8, 8, 8, 8, 8, 8, 8, 8, 8, 8, 8, 8, 8, 8, 8, 8, 8, 8, 8, 8, 8, 8, 8, 8, 8, 8, 8, 8, 8, 8, 8, 8, 8, 8, 8, 8, 8, 8].toArray⟩ : ByteArray).data.toList.getD (IntKind.u8.wrap (Int.fdiv (Int.fdiv a0 (2 ^ 16)) (2 ^ 8))).toNat 0).toNat : Nat) : Int)))))))
        (.guard ((0 : Int) ≤ (IntKind.u8.wrap (Int.fdiv a0 (2 ^ 16))) ∧ (IntKind.u8.wrap (Int.fdiv a0 (2 ^ 16))) < (((⟨[0, 1, 2, 2, 3, 3, 3, 3, 4, 4, 4, 4, 4, 4, 4, 4, 5, 5, 5, 5, 5, 5, 5, 5, 5, 5, 5, 5, 5, 5, 5, 5, 6, 6, 6, 6, 6, 6, 6, 6, 6, 6, 6, 6, 6, 6, 6, 6, 6, 6, 6, 6, 6, 6, 6, 6, 6, 6, 6, 6, 6, 6, 6, 6, 7, 7, 7, 7, 7, 7, 7, 7, 7, 7, 7, 7, 7, 7, 7, 7, 7, 7, 7, 7, 7, 7, 7, 7, 7, 7, 7, 7, 7, 7, 7, 7, 7, 7, 7, 7, 7, 7, 7, 7, 7, 7, 7, 7, 7, 7, 7, 7, 7, 7, 7, 7, 7, 7, 7, 7, 7, 7, 7, 7, 7, 7, 7, 7, 8, 8, 8, 8, 8, 8, 8, 8, 8, 8, 8, 8, 8, 8, 8, 8, 8, 8, 8, 8, 8, 8, 8, 8, 8, 8, 8, 8, 8, 8, 8, 8, 8, 8, 8, 8, 8, 8, 8, 8, 8, 8, 8, 8, 8, 8, 8, 8, 8, 8, 8, 8, 8, 8, 8, 8, 8, 8, 8, 8, 8, 8, 8, 8, 8, 8, 8, 8, 8, 8, 8, 8, 8, 8, 8, 8, 8, 8, 8, 8, 8, 8, 8, 8, 8, 8, 8, 8, 8, 8, 8, 8, 8, 8, 8, 8, 8, 8, 8, 8, 8, 8, 8, 8, 8, 8, 8, 8, 8, 8, 8, 8, 8, 8, 8, 8, 8, 8, 8, 8, 8, 8, 8, 8, 8, 8, 8, 8].toArray⟩ : ByteArray).size : Nat) : Int))
        (.leaf (IntKind.i64.wrap (16 + (IntKind.i64.wrap ((((⟨[0, 1, 2, 2, 3, 3, 3, 3, 4, 4, 4, 4, 4, 4, 4, 4, 5, 5, 5, 5, 5, 5, 5, 5, 5, 5, 5, 5, 5, 5, 5, 5, 6, 6, 6, 6, 6, 6, 6, 6, 6, 6, 6, 6, 6, 6, 6, 6, 6, 6, 6, 6, 6, 6, 6, 6, 6, 6, 6, 6, 6, 6, 6, 6, 7, 7, 7, 7, 7, 7, 7, 7, 7, 7, 7, 7, 7, 7, 7, 7, 7, 7, 7, 7, 7, 7, 7, 7, 7, 7, 7, 7, 7, 7, 7, 7, 7, 7, 7, 7, 7, 7, 7, 7, 7, 7, 7, 7, 7, 7, 7, 7, 7, 7, 7, 7, 7, 7, 7, 7, 7, 7, 7, 7, 7, 7, 7, 7, 8, 8, 8, 8, 8, 8, 8, 8, 8, 8, 8, 8, 8, 8, 8, 8, 8, 8, 8, 8, 8, 8, 8, 8, 8, 8, 8, 8, 8, 8, 8, 8, 8, 8, 8, 8, 8, 8, 8, 8, 8, 8, 8, 8, 8, 8, 8, 8, 8, 8, 8, 8, 8, 8, 8, 8, 8, 8, 8, 8, 8, 8, 8, 8, 8, 8, 8, 8, 8, 8, 8, 8, 8, 8, 8, 8, 8, 8, 8, 8, 8, 8, 8, 8, 8, 8, 8, 8, 8, 8, 8, 8, 8, 8, 8, 8, 8, 8, 8, 8, 8, 8, 8, 8, 8, 8, 8, 8, 8, 8, 8, 8, 8, 8, 8, 8, 8, 8, 8, 8, 8, 8, 8, 8, 8, 8, 8, 8].toArray⟩ : ByteArray).data.toList.getD (IntKind.u8.wrap (Int.fdiv a0 (2 ^ 16))).toNat 0).toNat : Nat) : Int))))))))
      (.ite (decide (a0 ≥ 256))
        (.guard ((0 : Int) ≤ 8)
        (.guard ((0 : Int) ≤ (IntKind.u8.wrap (Int.fdiv a0 (2 ^ 8))) ∧ (IntKind.u8.wrap (Int.fdiv a0 (2 ^ 8))) < (((⟨[0, 1, 2, 2, 3, 3, 3, 3, 4, 4, 4, 4, 4, 4, 4, 4, 5, 5, 5, 5, 5, 5, 5, 5, 5, 5, 5, 5, 5, 5, 5, 5, 6, 6, 6, 6, 6, 6, 6, 6, 6, 6, 6, 6, 6, 6, 6, 6, 6, 6, 6, 6, 6, 6, 6, 6, 6, 6, 6, 6, 6, 6, 6, 6, 7, 7, 7, 7, 7, 7, 7, 7, 7, 7, 7, 7, 7, 7, 7, 7, 7, 7, 7, 7, 7, 7, 7, 7, 7, 7, 7, 7, 7, 7, 7, 7, 7, 7, 7, 7, 7, 7, 7, 7, 7, 7, 7, 7, 7, 7, 7, 7, 7, 7, 7, 7, 7, 7, 7, 7, 7, 7, 7, 7, 7, 7, 7, 7, 8, 8, 8, 8, 8, 8, 8, 8, 8, 8, 8, 8, 8, 8, 8, 8, 8, 8, 8, 8, 8, 8, 8, 8, 8, 8, 8, 8, 8, 8, 8, 8, 8, 8, 8, 8, 8, 8, 8, 8, 8, 8, 8, 8, 8, 8, 8, 8, 8, 8, 8, 8, 8, 8, 8, 8, 8, 8, 8, 8, 8, 8, 8, 8, 8, 8, 8, 8, 8, 8, 8, 8, 8, 8, 8, 8, 8, 8, 8, 8, 8, 8, 8, 8, 8, 8, 8, 8, 8, 8, 8, 8, 8, 8, 8, 8, 8, 8, 8, 8, 8, 8, 8, 8, 8, 8, 8, 8, 8, 8, 8, 8, 8, 8, 8, 8, 8, 8, 8, 8, 8, 8, 8, 8, 8, 8, 8, 8].toArray⟩ : ByteArray).size : Nat) : Int))
        (.leaf (IntKind.i64.wrap (8 + (IntKind.i64.wrap ((((⟨[0, 1, 2, 2, 3, 3, 3, 3, 4, 4, 4, 4, 4, 4, 4, 4, 5, 5, 5, 5, 5, 5, 5, 5, 5, 5, 5, 5, 5, 5, 5, 5, 6, 6, 6, 6, 6, 6, 6, 6, 6, 6, 6, 6, 6, 6, 6, 6, 6, 6, 6, 6, 6, 6, 6, 6, 6, 6, 6, 6, 6, 6, 6, 6, 7, 7, 7, 7, 7, 7, 7, 7, 7, 7, 7, 7, 7, 7, 7, 7, 7, 7, 7, 7, 7, 7, 7, 7, 7, 7, 7, 7, 7, 7, 7, 7, 7, 7, 7, 7, 7, 7, 7, 7, 7, 7, 7, 7, 7, 7, 7, 7, 7, 7, 7, 7, 7, 7, 7, 7, 7, 7, 7, 7, 7, 7, 7, 7, 8, 8, 8, 8, 8, 8, 8, 8, 8, 8, 8, 8, 8, 8, 8, 8, 8, 8, 8, 8, 8, 8, 8, 8, 8, 8, 8, 8, 8, 8, 8, 8, 8, 8, 8, 8, 8, 8, 8, 8, 8, 8, 8, 8, 8, 8, 8, 8, 8, 8, 8, 8, 8, 8, 8, 8, 8, 8, 8, 8, 8, 8, 8, 8, 8, 8, 8, 8, 8, 8, 8, 8, 8, 8, 8, 8, 8, 8, 8, 8, 8, 8, 8, 8, 8, 8, 8, 8, 8, 8, 8, 8, 8, 8, 8, 8, 8, 8, 8, 8, 8, 8, 8, 8, 8, 8, 8, 8, 8, 8, 8, 8, 8, 8, 8, 8, 8, 8, 8, 8, 8, 8, 8, 8, 8, 8, 8, 8].toArray⟩ : ByteArray).data.toList.getD (IntKind.u8.wrap (Int.fdiv a0 (2 ^ 8))).toNat 0).toNat : Nat) : Int)))))))
        (.guard ((0 : Int) ≤ (IntKind.u8.wrap a0) ∧ (IntKind.u8.wrap a0) < (((⟨[0, 1, 2, 2, 3, 3, 3, 3, 4, 4, 4, 4, 4, 4, 4, 4, 5, 5, 5, 5, 5, 5, 5, 5, 5, 5, 5, 5, 5, 5, 5, 5, 6, 6, 6, 6, 6, 6, 6, 6, 6, 6, 6, 6, 6, 6, 6, 6, 6, 6, 6, 6, 6, 6, 6, 6, 6, 6, 6, 6, 6, 6, 6, 6, 7, 7, 7, 7, 7, 7, 7, 7, 7, 7, 7, 7, 7, 7, 7, 7, 7, 7, 7, 7, 7, 7, 7, 7, 7, 7, 7, 7, 7, 7, 7, 7, 7, 7, 7, 7, 7, 7, 7, 7, 7, 7, 7, 7, 7, 7, 7, 7, 7, 7, 7, 7, 7, 7, 7, 7, 7, 7, 7, 7, 7, 7, 7, 7, 8, 8, 8, 8, 8, 8, 8, 8, 8, 8, 8, 8, 8, 8, 8, 8, 8, 8, 8, 8, 8, 8, 8, 8, 8, 8, 8, 8, 8, 8, 8, 8, 8, 8, 8, 8, 8, 8, 8, 8, 8, 8, 8, 8, 8, 8, 8, 8, 8, 8, 8, 8, 8, 8, 8, 8, 8, 8, 8, 8, 8, 8, 8, 8, 8, 8, 8, 8, 8, 8, 8, 8, 8, 8, 8, 8, 8, 8, 8, 8, 8, 8, 8, 8, 8, 8, 8, 8, 8, 8, 8, 8, 8, 8, 8, 8, 8, 8, 8, 8, 8, 8, 8, 8, 8, 8, 8, 8, 8, 8, 8, 8, 8, 8, 8, 8, 8, 8, 8, 8, 8, 8, 8, 8, 8, 8, 8, 8].toArray⟩ : ByteArray).size : Nat) : Int))
        (.leaf (IntKind.i64.wrap (0 + (IntKind.i64.wrap ((((⟨[0, 1, 2, 2, 3, 3, 3, 3, 4, 4, 4, 4, 4, 4, 4, 4, 5, 5, 5, 5, 5, 5, 5, 5, 5, 5, 5, 5, 5, 5, 5, 5, 6, 6, 6, 6, 6, 6, 6, 6, 6, 6, 6, 6, 6, 6, 6, 6, 6, 6, 6, 6, 6, 6, 6, 6, 6, 6, 6, 6, 6, 6, 6, 6, 7, 7, 7, 7, 7, 7, 7, 7, 7, 7, 7, 7, 7, 7, 7, 7, 7, 7, 7, 7, 7, 7, 7, 7, 7, 7, 7, 7, 7, 7, 7, 7, 7, 7, 7, 7, 7, 7, 7, 7, 7, 7, 7, 7, 7, 7, 7, 7, 7, 7, 7, 7, 7, 7, 7, 7, 7, 7, 7, 7, 7, 7, 7, 7, 8, 8, 8, 8, 8, 8, 8, 8, 8, 8, 8, 8, 8, 8, 8, 8, 8, 8, 8, 8, 8, 8, 8, 8, 8, 8, 8, 8, 8, 8, 8, 8, 8, 8, 8, 8, 8, 8, 8, 8, 8, 8, 8, 8, 8, 8, 8, 8, 8, 8, 8, 8, 8, 8, 8, 8, 8, 8, 8, 8, 8, 8, 8, 8, 8, 8, 8, 8, 8, 8, 8, 8, 8, 8, 8, 8, 8, 8, 8, 8, 8, 8, 8, 8, 8, 8, 8, 8, 8, 8, 8, 8, 8, 8, 8, 8, 8, 8, 8, 8, 8, 8, 8, 8, 8, 8, 8, 8, 8, 8, 8, 8, 8, 8, 8, 8, 8, 8, 8, 8, 8, 8, 8, 8, 8, 8, 8, 8].toArray⟩ : ByteArray).data.toList.getD (IntKind.u8.wrap a0).toNat 0).toNat : Nat) : Int)))))))))
def zj4 (a0 : Int) : Option (Int) := (zhh a0).run
def zr2 : LQ (Int) := (Par.q (kP .u64))
def zp9 : LQ (Int) := (Par.q intP)
def zrs : SpecT := zu 0 zr2 1 [] (fun s => zhh s) default zp9 1 []
theorem zz4 : zh Tryz.prog 151 (zrs).spec :=
  ze (A := za2) zh2 Facts.mix Tryz.func151 (c := zc2) (by kernel_rfl) (Lc := 0) trivial zr2 1 2 [] (fun s => zhh s) default zp9 1 [] [] (by decide) (by kernel_rfl) (by rfl) (by decide) (by decide) (by rfl)
    (by rintro a0; kernel_rfl)
noncomputable def zc3 : Code := Tryz.f138.body.getD .skip
def zv3 : List (List Nat) := [[0], [2]]
noncomputable def zy3 : EnvT := ⟨Tryz.prog, zt [(151, zrs)]⟩
theorem zh3 : (zy3).Ok := zd ⟨zz4, trivial⟩
def za3 : Ann := ⟨[], [], [], zv3, []⟩
def zch (a0 : Int) : Tr (Int) :=
  (.bind (zj4 a0) fun v1 =>
  (.leaf (IntKind.i64.wrap (64 - v1))))
def zdw (a0 : Int) : Option (Int) := (zch a0).run
def zr3 : LQ (Int) := (Par.q (kP .u64))
def zg2 : LQ (Int) := (Par.q intP)
def zhx : SpecT := zu 0 zr3 1 [] (fun s => zch s) default zg2 1 []
theorem zo3 : zh Tryz.prog 138 (zhx).spec :=
  ze (A := za3) zh3 Facts.mix Tryz.func138 (c := zc3) (by kernel_rfl) (Lc := 0) trivial zr3 1 2 [] (fun s => zch s) default zg2 1 [] [] (by decide) (by kernel_rfl) (by rfl) (by decide) (by decide) (by rfl)
    (by rintro a0; kernel_rfl)
noncomputable def zc4 : Code := Tryz.f114.body.getD .skip
def zv4 : List (List Nat) := [[0, 1, 2], [0, 1, 2, 20], [0, 1, 2], [0, 1, 2, 24], [0, 1, 2], [0, 1, 2, 27], [6, 7], [0, 1, 2, 8], [0, 1, 2, 8], [0, 1, 2, 8, 9], [0, 1, 2, 8, 9, 10], [1, 2, 8, 9, 10, 11], [2, 8, 9, 10, 11, 12], [2, 8, 9, 10, 11, 12, 13], [2, 8, 9, 10, 11, 13, 14], [2, 8, 9, 10, 11, 13, 14, 15], [2, 8, 9, 10, 11, 13, 14, 15, 16], [2, 8, 9, 10, 11, 13, 14, 15, 16, 78], [2, 8, 9, 10, 11, 13, 14, 15, 16], [2, 8, 9, 10, 11, 13, 14, 15, 16], [2, 8, 9, 10, 11, 13, 14, 15, 16, 85], [2, 8, 9, 10, 14, 15, 17], [2, 8, 9, 10, 14, 15, 17, 18], [2, 8, 9, 10, 14, 15, 16, 17, 18], [2, 8, 9, 10, 14, 15, 16, 17, 18, 113], [2, 8, 9, 10, 14, 15, 16, 17, 18], [2, 8, 9, 10, 14, 15, 16, 17, 18], [2, 8, 9, 10, 14, 15, 16, 17, 18, 120], [6, 7]]
noncomputable def zy4 : EnvT := ⟨Tryz.prog, zt [(138, zhx)]⟩
theorem zh4 : (zy4).Ok := zd ⟨zo3, trivial⟩
def zca (x0 : Int) (x1 : Int) (x2 : Int) (x3 : Int) (x4 : Int) (x5 : Int) (x6 : Int) (x7 : Int) (x8 : Int) : Tr ((Int × Int × Int × Int × Int × Int × Int × Int × Int) ⊕ (Int × Int × Int × Int × Int × Int × Int × Int)) :=
  (.ite ((decide (x7 ≥ 4294967296)) || (decide ((IntKind.u64.wrap (x7 * x3)) > (IntKind.u64.wrap ((IntKind.u64.wrap (4294967296 * x8)) + x5)))))
    (.ite (decide ((IntKind.u64.wrap (x8 + x2)) ≥ 4294967296))
      (.leaf (.inr (x0, x1, x2, x3, x4, x5, x6, IntKind.u64.wrap (x7 - 1))))
      (.leaf (.inl (x0, x1, x2, x3, x4, x5, x6, IntKind.u64.wrap (x7 - 1), IntKind.u64.wrap (x8 + x2)))))
    (.leaf (.inr (x0, x1, x2, x3, x4, x5, x6, x7))))
def zct (x0 : Int) (x1 : Int) (x2 : Int) (x3 : Int) (x4 : Int) (x5 : Int) (x6 : Int) (x7 : Int) (x8 : Int) : Option (Int × Int × Int × Int × Int × Int × Int × Int) := ze1 (fun s : Int × Int × Int × Int × Int × Int × Int × Int × Int => (zca s.1 s.2.1 s.2.2.1 s.2.2.2.1 s.2.2.2.2.1 s.2.2.2.2.2.1 s.2.2.2.2.2.2.1 s.2.2.2.2.2.2.2.1 s.2.2.2.2.2.2.2.2).run) (x0, x1, x2, x3, x4, x5, x6, x7, x8)
def za4a : Ann := ⟨[], [], [], zv4, []⟩
def zq4a : EndD (Int × Int × Int × Int × Int × Int × Int × Int × Int) := ⟨(LQ.seq (Par.q (kP .u64)) (LQ.seq (Par.q (kP .u64)) (LQ.seq (Par.q (kP .u64)) (LQ.seq (Par.q (kP .u64)) (LQ.seq (Par.q (kP .u64)) (LQ.seq (Par.q (kP .u64)) (LQ.seq (Par.q (kP .u64)) (LQ.seq (Par.q (kP .u64)) (Par.q (kP .u64)))))))))), ⟨[2, 8, 9, 10, 11, 13, 14, 15, 16], []⟩, []⟩
def zas5 : EndD (Int × Int × Int × Int × Int × Int × Int × Int) := ⟨(LQ.seq (Par.q (kP .u64)) (LQ.seq (Par.q (kP .u64)) (LQ.seq (Par.q (kP .u64)) (LQ.seq (Par.q (kP .u64)) (LQ.seq (Par.q (kP .u64)) (LQ.seq (Par.q (kP .u64)) (LQ.seq (Par.q (kP .u64)) (Par.q (kP .u64))))))))), ⟨[2, 8, 9, 10, 11, 13, 14, 15], []⟩, []⟩
def zl4a : St → Option LR := L1 135 2 0 zq4a (.exit 0) zas5 (fun s => zca s.1 s.2.1 s.2.2.1 s.2.2.2.1 s.2.2.2.2.1 s.2.2.2.2.2.1 s.2.2.2.2.2.2.1 s.2.2.2.2.2.2.2.1 s.2.2.2.2.2.2.2.2)
theorem zk4a : zv (zy4).env 0 (sub zc4 [0, 0, 1, 1, 1, 1, 1, 1, 1, 1, 1, 1, 1, 1, 1, 1]) zl4a :=
  zii (A := za4a) zh4 Facts.mix trivial (k := zdk (sub zc4 [0, 0, 1, 1, 1, 1, 1, 1, 1, 1, 1, 1, 1, 1, 1, 1])) (by kernel_rfl) rfl (by rintro ⟨x0, x1, x2, x3, x4, x5, x6, x7, x8⟩; kernel_rfl)
def zcb (x0 : Int) (x1 : Int) (x2 : Int) (x3 : Int) (x4 : Int) (x5 : Int) (x6 : Int) (x7 : Int) (x8 : Int) : Tr ((Int × Int × Int × Int × Int × Int × Int × Int × Int) ⊕ (Int × Int × Int × Int × Int × Int)) :=
  (.ite ((decide (x8 ≥ 4294967296)) || (decide ((IntKind.u64.wrap (x8 * x3)) > (IntKind.u64.wrap ((IntKind.u64.wrap (4294967296 * x6)) + x4)))))
    (.ite (decide ((IntKind.u64.wrap (x6 + x2)) ≥ 4294967296))
      (.leaf (.inr (x0, x1, x4, x5, x7, IntKind.u64.wrap (x8 - 1))))
      (.leaf (.inl (x0, x1, x2, x3, x4, x5, IntKind.u64.wrap (x6 + x2), x7, IntKind.u64.wrap (x8 - 1)))))
    (.leaf (.inr (x0, x1, x4, x5, x7, x8))))
def zcu (x0 : Int) (x1 : Int) (x2 : Int) (x3 : Int) (x4 : Int) (x5 : Int) (x6 : Int) (x7 : Int) (x8 : Int) : Option (Int × Int × Int × Int × Int × Int) := ze1 (fun s : Int × Int × Int × Int × Int × Int × Int × Int × Int => (zcb s.1 s.2.1 s.2.2.1 s.2.2.2.1 s.2.2.2.2.1 s.2.2.2.2.2.1 s.2.2.2.2.2.2.1 s.2.2.2.2.2.2.2.1 s.2.2.2.2.2.2.2.2).run) (x0, x1, x2, x3, x4, x5, x6, x7, x8)
def za4b : Ann := ⟨[], [], [], zv4, []⟩
def zq4b : EndD (Int × Int × Int × Int × Int × Int × Int × Int × Int) := ⟨(LQ.seq (Par.q (kP .u64)) (LQ.seq (Par.q (kP .u64)) (LQ.seq (Par.q (kP .u64)) (LQ.seq (Par.q (kP .u64)) (LQ.seq (Par.q (kP .u64)) (LQ.seq (Par.q (kP .u64)) (LQ.seq (Par.q (kP .u64)) (LQ.seq (Par.q (kP .u64)) (Par.q (kP .u64)))))))))), ⟨[2, 8, 9, 10, 14, 15, 16, 17, 18], []⟩, []⟩
def zas6 : EndD (Int × Int × Int × Int × Int × Int) := ⟨(LQ.seq (Par.q (kP .u64)) (LQ.seq (Par.q (kP .u64)) (LQ.seq (Par.q (kP .u64)) (LQ.seq (Par.q (kP .u64)) (LQ.seq (Par.q (kP .u64)) (Par.q (kP .u64))))))), ⟨[2, 8, 14, 15, 17, 18], []⟩, []⟩
def zl4b : St → Option LR := L1 135 2 0 zq4b (.exit 2) zas6 (fun s => zcb s.1 s.2.1 s.2.2.1 s.2.2.2.1 s.2.2.2.2.1 s.2.2.2.2.2.1 s.2.2.2.2.2.2.1 s.2.2.2.2.2.2.2.1 s.2.2.2.2.2.2.2.2)
theorem zk4b : zv (zy4).env 0 (sub zc4 [0, 0, 1, 1, 1, 1, 1, 1, 1, 1, 1, 1, 1, 1, 1, 1, 1, 1, 1, 1]) zl4b :=
  zii (A := za4b) zh4 Facts.mix trivial (k := zdk (sub zc4 [0, 0, 1, 1, 1, 1, 1, 1, 1, 1, 1, 1, 1, 1, 1, 1, 1, 1, 1, 1])) (by kernel_rfl) rfl (by rintro ⟨x0, x1, x2, x3, x4, x5, x6, x7, x8⟩; kernel_rfl)
def za4 : Ann := ⟨[([0, 0, 1, 1, 1, 1, 1, 1, 1, 1, 1, 1, 1, 1, 1, 1], zl4a), ([0, 0, 1, 1, 1, 1, 1, 1, 1, 1, 1, 1, 1, 1, 1, 1, 1, 1, 1, 1], zl4b)], [], [], zv4, []⟩
def zhi (a0 : Int) (a1 : Int) (a2 : Int) : Tr (Int × Int) :=
  (.ite (a2 == 0)
    .fail
    (.ite (decide (a2 ≤ a0))
      .fail
      (.ite (a0 == 0)
        (.guard (a2 ≠ 0)
        (.guard (a2 ≠ 0)
        (.leaf (IntKind.u64.wrap (Int.tdiv a1 a2), Int.tmod a1 a2))))
        (.bind (zdw a2) fun v1 =>
        (.guard ((0 : Int) ≤ (IntKind.u64.wrap v1))
        (.guard ((0 : Int) ≤ 32)
        (.guard ((0 : Int) ≤ (IntKind.u64.wrap v1))
        (.guard ((0 : Int) ≤ (IntKind.u64.wrap (64 - (IntKind.u64.wrap v1))))
        (.guard ((0 : Int) ≤ (IntKind.u64.wrap v1))
        (.guard ((0 : Int) ≤ 32)
        (.guard ((Int.fdiv (IntKind.u64.wrap (a2 * 2 ^ (min (IntKind.u64.wrap v1).toNat 64))) (2 ^ 32)) ≠ 0)
        (.bind (zct (IntKind.u64.wrap (a2 * 2 ^ (min (IntKind.u64.wrap v1).toNat 64))) (IntKind.u64.wrap v1) (Int.fdiv (IntKind.u64.wrap (a2 * 2 ^ (min (IntKind.u64.wrap v1).toNat 64))) (2 ^ 32)) (IntKind.u64.wrap (((BitVec.ofInt 64 (IntKind.u64.wrap (a2 * 2 ^ (min (IntKind.u64.wrap v1).toNat 64))) &&& BitVec.ofInt 64 4294967295).toNat : Nat) : Int)) (IntKind.u64.wrap (((BitVec.ofInt 64 (IntKind.u64.wrap (a0 * 2 ^ (min (IntKind.u64.wrap v1).toNat 64))) ||| BitVec.ofInt 64 (Int.fdiv a1 (2 ^ (min (IntKind.u64.wrap (64 - (IntKind.u64.wrap v1))).toNat 64)))).toNat : Nat) : Int)) (Int.fdiv (IntKind.u64.wrap (a1 * 2 ^ (min (IntKind.u64.wrap v1).toNat 64))) (2 ^ 32)) (IntKind.u64.wrap (((BitVec.ofInt 64 (IntKind.u64.wrap (a1 * 2 ^ (min (IntKind.u64.wrap v1).toNat 64))) &&& BitVec.ofInt 64 4294967295).toNat : Nat) : Int)) (IntKind.u64.wrap (Int.tdiv (IntKind.u64.wrap (((BitVec.ofInt 64 (IntKind.u64.wrap (a0 * 2 ^ (min (IntKind.u64.wrap v1).toNat 64))) ||| BitVec.ofInt 64 (Int.fdiv a1 (2 ^ (min (IntKind.u64.wrap (64 - (IntKind.u64.wrap v1))).toNat 64)))).toNat : Nat) : Int)) (Int.fdiv (IntKind.u64.wrap (a2 * 2 ^ (min (IntKind.u64.wrap v1).toNat 64))) (2 ^ 32)))) (IntKind.u64.wrap ((IntKind.u64.wrap (((BitVec.ofInt 64 (IntKind.u64.wrap (a0 * 2 ^ (min (IntKind.u64.wrap v1).toNat 64))) ||| BitVec.ofInt 64 (Int.fdiv a1 (2 ^ (min (IntKind.u64.wrap (64 - (IntKind.u64.wrap v1))).toNat 64)))).toNat : Nat) : Int)) - (IntKind.u64.wrap ((IntKind.u64.wrap (Int.tdiv (IntKind.u64.wrap (((BitVec.ofInt 64 (IntKind.u64.wrap (a0 * 2 ^ (min (IntKind.u64.wrap v1).toNat 64))) ||| BitVec.ofInt 64 (Int.fdiv a1 (2 ^ (min (IntKind.u64.wrap (64 - (IntKind.u64.wrap v1))).toNat 64)))).toNat : Nat) : Int)) (Int.fdiv (IntKind.u64.wrap (a2 * 2 ^ (min (IntKind.u64.wrap v1).toNat 64))) (2 ^ 32)))) * (Int.fdiv (IntKind.u64.wrap (a2 * 2 ^ (min (IntKind.u64.wrap v1).toNat 64))) (2 ^ 32))))))) fun v2 =>
        (.guard (v2.2.2.1 ≠ 0)
        (.bind (zcu v2.1 v2.2.1 v2.2.2.1 v2.2.2.2.1 v2.2.2.2.2.2.2.1 v2.2.2.2.2.2.2.2 (IntKind.u64.wrap ((IntKind.u64.wrap ((IntKind.u64.wrap ((IntKind.u64.wrap (v2.2.2.2.2.1 * 4294967296)) + v2.2.2.2.2.2.1)) - (IntKind.u64.wrap (v2.2.2.2.2.2.2.2 * v2.1)))) - (IntKind.u64.wrap ((IntKind.u64.wrap (Int.tdiv (IntKind.u64.wrap ((IntKind.u64.wrap ((IntKind.u64.wrap (v2.2.2.2.2.1 * 4294967296)) + v2.2.2.2.2.2.1)) - (IntKind.u64.wrap (v2.2.2.2.2.2.2.2 * v2.1)))) v2.2.2.1)) * v2.2.2.1)))) (IntKind.u64.wrap ((IntKind.u64.wrap ((IntKind.u64.wrap (v2.2.2.2.2.1 * 4294967296)) + v2.2.2.2.2.2.1)) - (IntKind.u64.wrap (v2.2.2.2.2.2.2.2 * v2.1)))) (IntKind.u64.wrap (Int.tdiv (IntKind.u64.wrap ((IntKind.u64.wrap ((IntKind.u64.wrap (v2.2.2.2.2.1 * 4294967296)) + v2.2.2.2.2.2.1)) - (IntKind.u64.wrap (v2.2.2.2.2.2.2.2 * v2.1)))) v2.2.2.1))) fun v3 =>
        (.guard ((0 : Int) ≤ v3.2.1)
        (.leaf (IntKind.u64.wrap ((IntKind.u64.wrap (v3.2.2.2.1 * 4294967296)) + v3.2.2.2.2.2), Int.fdiv (IntKind.u64.wrap ((IntKind.u64.wrap ((IntKind.u64.wrap (v3.2.2.2.2.1 * 4294967296)) + v3.2.2.1)) - (IntKind.u64.wrap (v3.2.2.2.2.2 * v3.1)))) (2 ^ (min v3.2.1.toNat 64)))))))))))))))))))
def zj5 (a0 : Int) (a1 : Int) (a2 : Int) : Option (Int × Int) := (zhi a0 a1 a2).run
def zr4 : LQ (Int × Int × Int) := (LQ.seq (Par.q (kP .u64)) (LQ.seq (Par.q (kP .u64)) (Par.q (kP .u64))))
def zqa : LQ (Int × Int) := (LQ.seq (Par.q (kP .u64)) (Par.q (kP .u64)))
def zrt : SpecT := zu 0 zr4 3 [] (fun s => zhi s.1 s.2.1 s.2.2) default zqa 2 []
theorem zz5 : zh Tryz.prog 114 (zrt).spec :=
  ze (A := za4) zh4 Facts.mix Tryz.func114 (c := zc4) (by kernel_rfl) (Lc := 0) ⟨zk4a, zk4b, trivial⟩ zr4 3 2 [] (fun s => zhi s.1 s.2.1 s.2.2) default zqa 2 [] [] (by decide) (by kernel_rfl) (by rfl) (by decide) (by decide) (by rfl)
    (by rintro ⟨a0, a1, a2⟩; kernel_rfl)
noncomputable def zc5 : Code := Tryz.f91.body.getD .skip
def zv5 : List (List Nat) := [[0, 1, 2], [0, 1, 2, 21], [6, 7], [2, 8, 9], [2, 8, 9, 33], [6, 7], [10], [10, 43], [6, 7], [6, 7]]
noncomputable def zy5 : EnvT := ⟨Tryz.prog, zt [(113, zrr), (114, zrt)]⟩
theorem zh5 : (zy5).Ok := zd ⟨zz3, zz5, trivial⟩
def za5 : Ann := ⟨[], [], [], zv5, []⟩
def zl0 (a0 : Int) (a1 : Int) (a2 : Int) : Tr (Int × Int) :=
  (.ite (((decide (a0 < 0)) || (decide (a1 < 0))) || (decide (a2 < 1)))
    (.leaf (0, 2))
    (.bind (zj3 (IntKind.u64.wrap a0) (IntKind.u64.wrap a1)) fun v1 =>
    (.ite (decide (v1.1 ≥ (IntKind.u64.wrap a2)))
      (.leaf (0, 2))
      (.bind (zj5 v1.1 v1.2 (IntKind.u64.wrap a2)) fun v2 =>
      (.ite (decide (v2.1 > 1125899906842624))
        (.leaf (0, 2))
        (.leaf (IntKind.i64.wrap v2.1, 0)))))))
def z7 (a0 : Int) (a1 : Int) (a2 : Int) : Option (Int × Int) := (zl0 a0 a1 a2).run
def zr5 : LQ (Int × Int × Int) := (LQ.seq (Par.q intP) (LQ.seq (Par.q intP) (Par.q intP)))
def zux : LQ (Int × Int) := (LQ.seq (Par.q intP) (Par.q intP))
def zl1 : SpecT := zu 0 zr5 3 [] (fun s => zl0 s.1 s.2.1 s.2.2) default zux 2 []
theorem zo4 : zh Tryz.prog 91 (zl1).spec :=
  ze (A := za5) zh5 Facts.mix Tryz.func91 (c := zc5) (by kernel_rfl) (Lc := 0) trivial zr5 3 2 [] (fun s => zl0 s.1 s.2.1 s.2.2) default zux 2 [] [] (by decide) (by kernel_rfl) (by rfl) (by decide) (by decide) (by rfl)
    (by rintro ⟨a0, a1, a2⟩; kernel_rfl)
noncomputable def zc6 : Code := Tryz.f95.body.getD .skip
def zv6 : List (List Nat) := [[0, 1], [0, 1, 16], [4, 5], [4, 5]]
noncomputable def zy6 : EnvT := ⟨Tryz.prog, zt [(51, zjt), (91, zl1)]⟩
theorem zh6 : (zy6).Ok := zd ⟨zjg, zo4, trivial⟩
def za6 : Ann := ⟨[], [], [], zv6, []⟩
def zqb (a0 : Int) (a1 : Int) : Tr (Int × Int) :=
  (.bind (zaa a0) fun v1 =>
  (.ite (((!v1) || (decide (a1 < 0))) || (decide (a1 > 1000)))
    (.leaf (0, 2))
    (.bind (z7 a0 a1 1000) fun v2 =>
    (.leaf (v2.1, v2.2)))))
def zoa (a0 : Int) (a1 : Int) : Option (Int × Int) := (zqb a0 a1).run
def zr6 : LQ (Int × Int) := (LQ.seq (Par.q intP) (Par.q intP))
def zz6 : LQ (Int × Int) := (LQ.seq (Par.q intP) (Par.q intP))
def z15 : SpecT := zu 0 zr6 2 [] (fun s => zqb s.1 s.2) default zz6 2 []
theorem z82 : zh Tryz.prog 95 (z15).spec :=
  ze (A := za6) zh6 Facts.mix Tryz.func95 (c := zc6) (by kernel_rfl) (Lc := 0) trivial zr6 2 2 [] (fun s => zqb s.1 s.2) default zz6 2 [] [] (by decide) (by kernel_rfl) (by rfl) (by decide) (by decide) (by rfl)
    (by rintro ⟨a0, a1⟩; kernel_rfl)
end
end Go.Proofs.YtmakmlnfbdablaaGreat.Ab
