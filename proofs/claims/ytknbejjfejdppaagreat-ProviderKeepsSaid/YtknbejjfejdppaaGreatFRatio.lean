/-
  The functions, each by its tree.
-/
import Derived.Test.YtknbejjfejdppaaGreatFacts
import Derived.Test.YtknbejjfejdppaaGreatAbStructs
import Derived.Test.YtknbejjfejdppaaGreatAbFun
namespace Go.Proofs.YtknbejjfejdppaaGreat.Ab
open Go Go.RowKit
set_option maxRecDepth 100000
set_option linter.unusedVariables false
set_option linter.unusedSimpArgs false
noncomputable section

noncomputable def zc0 : Code := Tryz.f117.body.getD .skip
def zv0 : List (List Nat) := [[0], [2]]
noncomputable def zy0 : EnvT := ⟨Tryz.prog, lookT []⟩
theorem zh0 : (zy0).Ok := lookT_ok trivial
def za0 : Ann := ⟨[], [], [], zv0, []⟩
def T_ratio_In (a0 : Int) : Tr (Bool) :=
  (.leaf ((decide (a0 ≥ 0)) && (decide (a0 ≤ 1125899906842624))))
def sh_ratio_In (a0 : Int) : Option (Bool) := (T_ratio_In a0).run
def zr0 : LQ (Int) := (Par.q intP)
def qr_ratio_In : LQ (Bool) := (Par.q boolP)
def F_ratio_In : SpecT := specF 0 zr0 1 [] (fun s => T_ratio_In s) default qr_ratio_In 1 []
theorem ok_ratio_In : SpecOk Tryz.prog 117 (F_ratio_In).spec :=
  specF_ok (A := za0) zh0 Facts.mix Tryz.func117 (c := zc0) (by kernel_rfl) (Lc := 0) trivial zr0 1 2 [] (fun s => T_ratio_In s) default qr_ratio_In 1 [] [] (by decide) (by kernel_rfl) (by rfl) (by decide) (by decide) (by rfl)
    (by rintro a0; kernel_rfl)

noncomputable def zc1 : Code := Tryz.f173.body.getD .skip
def zv1 : List (List Nat) := [[0, 1], [0, 1, 6], [0, 1, 6, 7], [0, 1, 6, 7, 8], [0, 1, 6, 7, 8, 9], [0, 1, 6, 7, 8, 9, 10], [0, 1, 6, 7, 9, 11], [0, 1, 6, 7, 9, 11, 12], [0, 1, 6, 7, 9, 12, 13], [0, 1, 7, 9, 12, 13], [0, 1, 4], [4, 5]]
noncomputable def zy1 : EnvT := ⟨Tryz.prog, lookT []⟩
theorem zh1 : (zy1).Ok := lookT_ok trivial
def za1 : Ann := ⟨[], [], [], zv1, []⟩
def T_math_bits_Mul64 (a0 : Int) (a1 : Int) : Tr (Int × Int) :=
  (.guard ((0 : Int) ≤ 32)
  (.guard ((0 : Int) ≤ 32)
  (.guard ((0 : Int) ≤ 32)
  (.guard ((0 : Int) ≤ 32)
  (.guard ((0 : Int) ≤ 32)
  (.leaf (IntKind.u64.wrap ((IntKind.u64.wrap ((IntKind.u64.wrap ((Int.fdiv a0 (2 ^ 32)) * (Int.fdiv a1 (2 ^ 32)))) + (Int.fdiv (IntKind.u64.wrap ((IntKind.u64.wrap ((Int.fdiv a0 (2 ^ 32)) * (IntKind.u64.wrap (((BitVec.ofInt 64 a1 &&& BitVec.ofInt 64 4294967295).toNat : Nat) : Int)))) + (Int.fdiv (IntKind.u64.wrap ((IntKind.u64.wrap (((BitVec.ofInt 64 a0 &&& BitVec.ofInt 64 4294967295).toNat : Nat) : Int)) * (IntKind.u64.wrap (((BitVec.ofInt 64 a1 &&& BitVec.ofInt 64 4294967295).toNat : Nat) : Int)))) (2 ^ 32)))) (2 ^ 32)))) + (Int.fdiv (IntKind.u64.wrap ((IntKind.u64.wrap (((BitVec.ofInt 64 (IntKind.u64.wrap ((IntKind.u64.wrap ((Int.fdiv a0 (2 ^ 32)) * (IntKind.u64.wrap (((BitVec.ofInt 64 a1 &&& BitVec.ofInt 64 4294967295).toNat : Nat) : Int)))) + (Int.fdiv (IntKind.u64.wrap ((IntKind.u64.wrap (((BitVec.ofInt 64 a0 &&& BitVec.ofInt 64 4294967295).toNat : Nat) : Int)) * (IntKind.u64.wrap (((BitVec.ofInt 64 a1 &&& BitVec.ofInt 64 4294967295).toNat : Nat) : Int)))) (2 ^ 32)))) &&& BitVec.ofInt 64 4294967295).toNat : Nat) : Int)) + (IntKind.u64.wrap ((IntKind.u64.wrap (((BitVec.ofInt 64 a0 &&& BitVec.ofInt 64 4294967295).toNat : Nat) : Int)) * (Int.fdiv a1 (2 ^ 32)))))) (2 ^ 32))), IntKind.u64.wrap (a0 * a1))))))))
def sh_math_bits_Mul64 (a0 : Int) (a1 : Int) : Option (Int × Int) := (T_math_bits_Mul64 a0 a1).run
def zr1 : LQ (Int × Int) := (LQ.seq (Par.q (kP .u64)) (Par.q (kP .u64)))
def qr_math_bits_Mul64 : LQ (Int × Int) := (LQ.seq (Par.q (kP .u64)) (Par.q (kP .u64)))
def F_math_bits_Mul64 : SpecT := specF 0 zr1 2 [] (fun s => T_math_bits_Mul64 s.1 s.2) default qr_math_bits_Mul64 2 []
theorem ok_math_bits_Mul64 : SpecOk Tryz.prog 173 (F_math_bits_Mul64).spec :=
  specF_ok (A := za1) zh1 Facts.mix Tryz.func173 (c := zc1) (by kernel_rfl) (Lc := 0) trivial zr1 2 2 [] (fun s => T_math_bits_Mul64 s.1 s.2) default qr_math_bits_Mul64 2 [] [] (by decide) (by kernel_rfl) (by rfl) (by decide) (by decide) (by rfl)
    (by rintro ⟨a0, a1⟩; kernel_rfl)

noncomputable def zc2 : Code := Tryz.f165.body.getD .skip
def zv2 : List (List Nat) := [[0, 2], [0, 2, 4], [0], [0, 2], [0, 2, 8], [0, 2], [0, 2], [0, 2, 14], [0, 2], [0, 2], [2]]
noncomputable def zy2 : EnvT := ⟨Tryz.prog, lookT []⟩
theorem zh2 : (zy2).Ok := lookT_ok trivial
def za2 : Ann := ⟨[], [], [], zv2, []⟩
def T_math_bits_Len64 (a0 : Int) : Tr (Int) :=
  (.ite (decide (a0 ≥ 4294967296))
    (.guard ((0 : Int) ≤ 32)
    (.ite (decide ((Int.fdiv a0 (2 ^ 32)) ≥ 65536))
      (.guard ((0 : Int) ≤ 16)
      (.ite (decide ((Int.fdiv (Int.fdiv a0 (2 ^ 32)) (2 ^ 16)) ≥ 256))
        (.guard ((0 : Int) ≤ 8)
        (.guard ((0 : Int) ≤ (IntKind.u8.wrap (Int.fdiv (Int.fdiv (Int.fdiv a0 (2 ^ 32)) (2 ^ 16)) (2 ^ 8))) ∧ (IntKind.u8.wrap (Int.fdiv (Int.fdiv (Int.fdiv a0 (2 ^ 32)) (2 ^ 16)) (2 ^ 8))) < (((⟨[0, 1, 2, 2, 3, 3, 3, 3, 4, 4, 4, 4, 4, 4, 4, 4, 5, 5, 5, 5, 5, 5, 5, 5, 5, 5, 5, 5, 5, 5, 5, 5, 6, 6, 6, 6, 6, 6, 6, 6, 6, 6, 6, 6, 6, 6, 6, 6, 6, 6, 6, 6, 6, 6, 6, 6, 6, 6, 6, 6, 6, 6, 6, 6, 7, 7, 7, 7, 7, 7, 7, 7, 7, 7, 7, 7, 7, 7, 7, 7, 7, 7, 7, 7, 7, 7, 7, 7, 7, 7, 7, 7, 7, 7, 7, 7, 7, 7, 7, 7, 7, 7, 7, 7, 7, 7, 7, 7, 7, 7, 7, 7, 7, 7, 7, 7, 7, 7, 7, 7, 7, 7, 7, 7, 7, 7, 7, 7, 8, 8, 8, 8, 8, 8, 8, 8, 8, 8, 8, 8, 8, 8, 8, 8, 8, 8, 8, 8, 8, 8, 8, 8, 8, 8, 8, 8, 8, 8, 8, 8, 8, 8, 8, 8, 8, 8, 8, 8, 8, 8, 8, 8, 8, 8, 8, 8, 8, 8, 8, 8, 8, 8, 8, 8, 8, 8, 8, 8, 8, 8, 8, 8, 8, 8, 8, 8, 8, 8, 8, 8, 8, 8, 8, 8, 8, 8, 8, 8, 8, 8, 8, 8, 8, 8, 8, 8, 8, 8, 8, 8, 8, 8, 8, 8, 8, 8, 8, 8, 8, 8, 8, 8, 8, 8, 8, 8, 8, 8, 8, 8, 8, 8, 8, 8, 8, 8, 8, 8, 8, 8, 8, 8, 8, 8, 8, 8].toArray⟩ : ByteArray).size : Nat) : Int))
        (.leaf (IntKind.i64.wrap (56 + (IntKind.i64.wrap ((((⟨[0, 1, 2, 2, 3, 3, 3, 3, 4, 4, 4, 4, 4, 4, 4, 4, 5, 5, 5, 5, 5, 5, 5, 5, 5, 5, 5, 5, 5, 5, 5, 5, 6, 6, 6, 6, 6, 6, 6, 6, 6, 6, 6, 6, 6, 6, 6, 6, 6, 6, 6, 6, 6, 6, 6, 6, 6, 6, 6, 6, 6, 6, 6, 6, 7, 7, 7, 7, 7, 7, 7, 7, 7, 7, 7, 7, 7, 7, 7, 7, 7, 7, 7, 7, 7, 7, 7, 7, 7, 7, 7, 7, 7, 7, 7, 7, 7, 7, 7, 7, 7, 7, 7, 7, 7, 7, 7, 7, 7, 7, 7, 7, 7, 7, 7, 7, 7, 7, 7, 7, 7, 7, 7, 7, 7, 7, 7, 7, 8, 8, 8, 8, 8, 8, 8, 8, 8, 8, 8, 8, 8, 8, 8, 8, 8, 8, 8, 8, 8, 8, 8, 8, 8, 8, 8, 8, 8, 8, 8, 8, 8, 8, 8, 8, 8, 8, 8, 8, 8, 8, 8, 8, 8, 8, 8, 8, 8, 8, 8, 8, 8, 8, 8, 8, 8, 8, 8, 8, 8, 8, 8, 8, 8, 8, 8, 8, 8, 8, 8, 8, 8, 8, 8, 8, 8, 8, 8, 8, 8, 8, 8, 8, 8, 8, 8, 8, 8, 8, 8, 8, 8, 8, 8, 8, 8, 8, 8, 8, 8, 8, 8, 8, 8, 8, 8, 8, 8, 8, 8, 8, 8, 8, 8, 8, 8, 8, 8, 8, 8, 8, 8, 8, 8, 8, 8, 8].toArray⟩ : ByteArray).data.toList.getD (IntKind.u8.wrap (Int.fdiv (Int.fdiv (Int.fdiv a0 (2 ^ 32)) (2 ^ 16)) (2 ^ 8))).toNat 0).toNat : Nat) : Int)))))))
        (.guard ((0 : Int) ≤ (IntKind.u8.wrap (Int.fdiv (Int.fdiv a0 (2 ^ 32)) (2 ^ 16))) ∧ (IntKind.u8.wrap (Int.fdiv (Int.fdiv a0 (2 ^ 32)) (2 ^ 16))) < (((⟨[0, 1, 2, 2, 3, 3, 3, 3, 4, 4, 4, 4, 4, 4, 4, 4, 5, 5, 5, 5, 5, 5, 5, 5, 5, 5, 5, 5, 5, 5, 5, 5, 6, 6, 6, 6, 6, 6, 6, 6, 6, 6, 6, 6, 6, 6, 6, 6, 6, 6, 6, 6, 6, 6, 6, 6, 6, 6, 6, 6, 6, 6, 6, 6, 7, 7, 7, 7, 7, 7, 7, 7, 7, 7, 7, 7, 7, 7, 7, 7, 7, 7, 7, 7, 7, 7, 7, 7, 7, 7, 7, 7, 7, 7, 7, 7, 7, 7, 7, 7, 7, 7, 7, 7, 7, 7, 7, 7, 7, 7, 7, 7, 7, 7, 7, 7, 7, 7, 7, 7, 7, 7, 7, 7, 7, 7, 7, 7, 8, 8, 8, 8, 8, 8, 8, 8, 8, 8, 8, 8, 8, 8, 8, 8, 8, 8, 8, 8, 8, 8, 8, 8, 8, 8, 8, 8, 8, 8, 8, 8, 8, 8, 8, 8, 8, 8, 8, 8, 8, 8, 8, 8, 8, 8, 8, 8, 8, 8, 8, 8, 8, 8, 8, 8, 8, 8, 8, 8, 8, 8, 8, 8, 8, 8, 8, 8, 8, 8, 8, 8, 8, 8, 8, 8, 8, 8, 8, 8, 8, 8, 8, 8, 8, 8, 8, 8, 8, 8, 8, 8, 8, 8, 8, 8, 8, 8, 8, 8, 8, 8, 8, 8, 8, 8, 8, 8, 8, 8, 8, 8, 8, 8, 8, 8, 8, 8, 8, 8, 8, 8, 8, 8, 8, 8, 8, 8].toArray⟩ : ByteArray).size : Nat) : Int))
        (.leaf (IntKind.i64.wrap (48 + (IntKind.i64.wrap ((((⟨[0, 1, 2, 2, 3, 3, 3, 3, 4, 4, 4, 4, 4, 4, 4, 4, 5, 5, 5, 5, 5, 5, 5, 5, 5, 5, 5, 5, 5, 5, 5, 5, 6, 6, 6, 6, 6, 6, 6, 6, 6, 6, 6, 6, 6, 6, 6, 6, 6, 6, 6, 6, 6, 6, 6, 6, 6, 6, 6, 6, 6, 6, 6, 6, 7, 7, 7, 7, 7, 7, 7, 7, 7, 7, 7, 7, 7, 7, 7, 7, 7, 7, 7, 7, 7, 7, 7, 7, 7, 7, 7, 7, 7, 7, 7, 7, 7, 7, 7, 7, 7, 7, 7, 7, 7, 7, 7, 7, 7, 7, 7, 7, 7, 7, 7, 7, 7, 7, 7, 7, 7, 7, 7, 7, 7, 7, 7, 7, 8, 8, 8, 8, 8, 8, 8, 8, 8, 8, 8, 8, 8, 8, 8, 8, 8, 8, 8, 8, 8, 8, 8, 8, 8, 8, 8, 8, 8, 8, 8, 8, 8, 8, 8, 8, 8, 8, 8, 8, 8, 8, 8, 8, 8, 8, 8, 8, 8, 8, 8, 8, 8, 8, 8, 8, 8, 8, 8, 8, 8, 8, 8, 8, 8, 8, 8, 8, 8, 8, 8, 8, 8, 8, 8, 8, 8, 8, 8, 8, 8, 8, 8, 8, 8, 8, 8, 8, 8, 8, 8, 8, 8, 8, 8, 8, 8, 8, 8, 8, 8, 8, 8, 8, 8, 8, 8, 8, 8, 8, 8, 8, 8, 8, 8, 8, 8, 8, 8, 8, 8, 8, 8, 8, 8, 8, 8, 8].toArray⟩ : ByteArray).data.toList.getD (IntKind.u8.wrap (Int.fdiv (Int.fdiv a0 (2 ^ 32)) (2 ^ 16))).toNat 0).toNat : Nat) : Int))))))))
      (.ite (decide ((Int.fdiv a0 (2 ^ 32)) ≥ 256))
        (.guard ((0 : Int) ≤ 8)
        (.guard ((0 : Int) ≤ (IntKind.u8.wrap (Int.fdiv (Int.fdiv a0 (2 ^ 32)) (2 ^ 8))) ∧ (IntKind.u8.wrap (Int.fdiv (Int.fdiv a0 (2 ^ 32)) (2 ^ 8))) < (((⟨[0, 1, 2, 2, 3, 3, 3, 3, 4, 4, 4, 4, 4, 4, 4, 4, 5, 5, 5, 5, 5, 5, 5, 5, 5, 5, 5, 5, 5, 5, 5, 5, 6, 6, 6, 6, 6, 6, 6, 6, 6, 6, 6, 6, 6, 6, 6, 6, 6, 6, 6, 6, 6, 6, 6, 6, 6, 6, 6, 6, 6, 6, 6, 6, 7, 7, 7, 7, 7, 7, 7, 7, 7, 7, 7, 7, 7, 7, 7, 7, 7, 7, 7, 7, 7, 7, 7, 7, 7, 7, 7, 7, 7, 7, 7, 7, 7, 7, 7, 7, 7, 7, 7, 7, 7, 7, 7, 7, 7, 7, 7, 7, 7, 7, 7, 7, 7, 7, 7, 7, 7, 7, 7, 7, 7, 7, 7, 7, 8, 8, 8, 8, 8, 8, 8, 8, 8, 8, 8, 8, 8, 8, 8, 8, 8, 8, 8, 8, 8, 8, 8, 8, 8, 8, 8, 8, 8, 8, 8, 8, 8, 8, 8, 8, 8, 8, 8, 8, 8, 8, 8, 8, 8, 8, 8, 8, 8, 8, 8, 8, 8, 8, 8, 8, 8, 8, 8, 8, 8, 8, 8, 8, 8, 8, 8, 8, 8, 8, 8, 8, 8, 8, 8, 8, 8, 8, 8, 8, 8, 8, 8, 8, 8, 8, 8, 8, 8, 8, 8, 8, 8, 8, 8, 8, 8, 8, 8, 8, 8, 8, 8, 8, 8, 8, 8, 8, 8, 8, 8, 8, 8, 8, 8, 8, 8, 8, 8, 8, 8, 8, 8, 8, 8, 8, 8, 8].toArray⟩ : ByteArray).size : Nat) : Int))
        (.leaf (IntKind.i64.wrap (40 + (IntKind.i64.wrap ((((⟨[0, 1, 2, 2, 3, 3, 3, 3, 4, 4, 4, 4, 4, 4, 4, 4, 5, 5, 5, 5, 5, 5, 5, 5, 5, 5, 5, 5, 5, 5, 5, 5, 6, 6, 6, 6, 6, 6, 6, 6, 6, 6, 6, 6, 6, 6, 6, 6, 6, 6, 6, 6, 6, 6, 6, 6, 6, 6, 6, 6, 6, 6, 6, 6, 7, 7, 7, 7, 7, 7, 7, 7, 7, 7, 7, 7, 7, 7, 7, 7, 7, 7, 7, 7, 7, 7, 7, 7, 7, 7, 7, 7, 7, 7, 7, 7, 7, 7, 7, 7, 7, 7, 7, 7, 7, 7, 7, 7, 7, 7, 7, 7, 7, 7, 7, 7, 7, 7, 7, 7, 7, 7, 7, 7, 7, 7, 7, 7, 8, 8, 8, 8, 8, 8, 8, 8, 8, 8, 8, 8, 8, 8, 8, 8, 8, 8, 8, 8, 8, 8, 8, 8, 8, 8, 8, 8, 8, 8, 8, 8, 8, 8, 8, 8, 8, 8, 8, 8, 8, 8, 8, 8, 8, 8, 8, 8, 8, 8, 8, 8, 8, 8, 8, 8, 8, 8, 8, 8, 8, 8, 8, 8, 8, 8, 8, 8, 8, 8, 8, 8, 8, 8, 8, 8, 8, 8, 8, 8, 8, 8, 8, 8, 8, 8, 8, 8, 8, 8, 8, 8, 8, 8, 8, 8, 8, 8, 8, 8, 8, 8, 8, 8, 8, 8, 8, 8, 8, 8, 8, 8, 8, 8, 8, 8, 8, 8, 8, 8, 8, 8, 8, 8, 8, 8, 8, 8].toArray⟩ : ByteArray).data.toList.getD (IntKind.u8.wrap (Int.fdiv (Int.fdiv a0 (2 ^ 32)) (2 ^ 8))).toNat 0).toNat : Nat) : Int)))))))
        (.guard ((0 : Int) ≤ (IntKind.u8.wrap (Int.fdiv a0 (2 ^ 32))) ∧ (IntKind.u8.wrap (Int.fdiv a0 (2 ^ 32))) < (((⟨[0, 1, 2, 2, 3, 3, 3, 3, 4, 4, 4, 4, 4, 4, 4, 4, 5, 5, 5, 5, 5, 5, 5, 5, 5, 5, 5, 5, 5, 5, 5, 5, 6, 6, 6, 6, 6, 6, 6, 6, 6, 6, 6, 6, 6, 6, 6, 6, 6, 6, 6, 6, 6, 6, 6, 6, 6, 6, 6, 6, 6, 6, 6, 6, 7, 7, 7, 7, 7, 7, 7, 7, 7, 7, 7, 7, 7, 7, 7, 7, 7, 7, 7, 7, 7, 7, 7, 7, 7, 7, 7, 7, 7, 7, 7, 7, 7, 7, 7, 7, 7, 7, 7, 7, 7, 7, 7, 7, 7, 7, 7, 7, 7, 7, 7, 7, 7, 7, 7, 7, 7, 7, 7, 7, 7, 7, 7, 7, 8, 8, 8, 8, 8, 8, 8, 8, 8, 8, 8, 8, 8, 8, 8, 8, 8, 8, 8, 8, 8, 8, 8, 8, 8, 8, 8, 8, 8, 8, 8, 8, 8, 8, 8, 8, 8, 8, 8, 8, 8, 8, 8, 8, 8, 8, 8, 8, 8, 8, 8, 8, 8, 8, 8, 8, 8, 8, 8, 8, 8, 8, 8, 8, 8, 8, 8, 8, 8, 8, 8, 8, 8, 8, 8, 8, 8, 8, 8, 8, 8, 8, 8, 8, 8, 8, 8, 8, 8, 8, 8, 8, 8, 8, 8, 8, 8, 8, 8, 8, 8, 8, 8, 8, 8, 8, 8, 8, 8, 8, 8, 8, 8, 8, 8, 8, 8, 8, 8, 8, 8, 8, 8, 8, 8, 8, 8, 8].toArray⟩ : ByteArray).size : Nat) : Int))
        (.leaf (IntKind.i64.wrap (32 + (IntKind.i64.wrap ((((⟨[0, 1, 2, 2, 3, 3, 3, 3, 4, 4, 4, 4, 4, 4, 4, 4, 5, 5, 5, 5, 5, 5, 5, 5, 5, 5, 5, 5, 5, 5, 5, 5, 6, 6, 6, 6, 6, 6, 6, 6, 6, 6, 6, 6, 6, 6, 6, 6, 6, 6, 6, 6, 6, 6, 6, 6, 6, 6, 6, 6, 6, 6, 6, 6, 7, 7, 7, 7, 7, 7, 7, 7, 7, 7, 7, 7, 7, 7, 7, 7, 7, 7, 7, 7, 7, 7, 7, 7, 7, 7, 7, 7, 7, 7, 7, 7, 7, 7, 7, 7, 7, 7, 7, 7, 7, 7, 7, 7, 7, 7, 7, 7, 7, 7, 7, 7, 7, 7, 7, 7, 7, 7, 7, 7, 7, 7, 7, 7, 8, 8, 8, 8, 8, 8, 8, 8, 8, 8, 8, 8, 8, 8, 8, 8, 8, 8, 8, 8, 8, 8, 8, 8, 8, 8, 8, 8, 8, 8, 8, 8, 8, 8, 8, 8, 8, 8, 8, 8, 8, 8, 8, 8, 8, 8, 8, 8, 8, 8, 8, 8, 8, 8, 8, 8, 8, 8, 8, 8, 8, 8, 8, 8, 8, 8, 8, 8, 8, 8, 8, 8, 8, 8, 8, 8, 8, 8, 8, 8, 8, 8, 8, 8, 8, 8, 8, 8, 8, 8, 8, 8, 8, 8, 8, 8, 8, 8, 8, 8, 8, 8, 8, 8, 8, 8, 8, 8, 8, 8, 8, 8, 8, 8, 8, 8, 8, 8, 8, 8, 8, 8, 8, 8, 8, 8, 8, 8].toArray⟩ : ByteArray).data.toList.getD (IntKind.u8.wrap (Int.fdiv a0 (2 ^ 32))).toNat 0).toNat : Nat) : Int)))))))))
    (.ite (decide (a0 ≥ 65536))
      (.guard ((0 : Int) ≤ 16)
      (.ite (decide ((Int.fdiv a0 (2 ^ 16)) ≥ 256))
        (.guard ((0 : Int) ≤ 8)
        (.guard ((0 : Int) ≤ (IntKind.u8.wrap (Int.fdiv (Int.fdiv a0 (2 ^ 16)) (2 ^ 8))) ∧ (IntKind.u8.wrap (Int.fdiv (Int.fdiv a0 (2 ^ 16)) (2 ^ 8))) < (((⟨[0, 1, 2, 2, 3, 3, 3, 3, 4, 4, 4, 4, 4, 4, 4, 4, 5, 5, 5, 5, 5, 5, 5, 5, 5, 5, 5, 5, 5, 5, 5, 5, 6, 6, 6, 6, 6, 6, 6, 6, 6, 6, 6, 6, 6, 6, 6, 6, 6, 6, 6, 6, 6, 6, 6, 6, 6, 6, 6, 6, 6, 6, 6, 6, 7, 7, 7, 7, 7, 7, 7, 7, 7, 7, 7, 7, 7, 7, 7, 7, 7, 7, 7, 7, 7, 7, 7, 7, 7, 7, 7, 7, 7, 7, 7, 7, 7, 7, 7, 7, 7, 7, 7, 7, 7, 7, 7, 7, 7, 7, 7, 7, 7, 7, 7, 7, 7, 7, 7, 7, 7, 7, 7, 7, 7, 7, 7, 7, 8, 8, 8, 8, 8, 8, 8, 8, 8, 8, 8, 8, 8, 8, 8, 8, 8, 8, 8, 8, 8, 8, 8, 8, 8, 8, 8, 8, 8, 8, 8, 8, 8, 8, 8, 8, 8, 8, 8, 8, 8, 8, 8, 8, 8, 8, 8, 8, 8, 8, 8, 8, 8, 8, 8, 8, 8, 8, 8, 8, 8, 8, 8, 8, 8, 8, 8, 8, 8, 8, 8, 8, 8, 8, 8, 8, 8, 8, 8, 8, 8, 8, 8, 8, 8, 8, 8, 8, 8, 8, 8, 8, 8, 8, 8, 8, 8, 8, 8, 8, 8, 8, 8, 8, 8, 8, 8, 8, 8, 8, 8, 8, 8, 8, 8, 8, 8, 8, 8, 8, 8, 8, 8, 8, 8, 8, 8, 8].toArray⟩ : ByteArray).size : Nat) : Int))
        (.leaf (IntKind.i64.wrap (24 + (IntKind.i64.wrap ((((⟨[0, 1, 2, 2, 3, 3, 3, 3, 4, 4, 4, 4, 4, 4, 4, 4, 5, 5, 5, 5, 5, 5, 5, 5, 5, 5, 5, 5, 5, 5, 5, 5, 6, 6, 6, 6, 6, 6, 6, 6, 6, 6, 6, 6, 6, 6, 6, 6, 6, 6, 6, 6, 6, 6, 6, 6, 6, 6, 6, 6, 6, 6, 6, 6, 7, 7, 7, 7, 7, 7, 7, 7, 7, 7, 7, 7, 7, 7, 7, 7, 7, 7, 7, 7, 7, 7, 7, 7, 7, 7, 7, 7, 7, 7, 7, 7, 7, 7, 7, 7, 7, 7, 7, 7, 7, 7, 7, 7, 7, 7, 7, 7, 7, 7, 7, 7, 7, 7, 7, 7, 7, 7, 7, 7, 7, 7, 7, 7, 8, 8, 8, 8, 8, 8, 8, 8, 8, 8, 8, 8, 8, 8, 8, 8, 8, 8, 8, 8, 8, 8, 8, 8, 8, 8, 8, 8, 8, 8, 8, 8, 8, 8, 8, 8, 8, 8, 8, 8, 8, 8, 8, 8, 8, 8, 8, 8, 8, 8, 8, 8, 8, 8, 8, 8, 8, 8, 8, 8, 8, 8, 8, 8, 8, 8, 8, 8, 8, 8, 8, 8, 8, 8, 8, 8, 8, 8, 8, 8, 8, 8, 8, 8, 8, 8, 8, 8, 8, 8, 8, 8, 8, 8, 8, 8, 8, 8, 8, 8, 8, 8, 8, 8, 8, 8, 8, 8, 8, 8, 8, 8, 8, 8, 8, 8, 8, 8, 8, 8, 8, 8, 8, 8, 8, 8, 8, 8].toArray⟩ : ByteArray).data.toList.getD (IntKind.u8.wrap (Int.fdiv (Int.fdiv a0 (2 ^ 16)) (2 ^ 8))).toNat 0).toNat : Nat) : Int)))))))
        (.guard ((0 : Int) ≤ (IntKind.u8.wrap (Int.fdiv a0 (2 ^ 16))) ∧ (IntKind.u8.wrap (Int.fdiv a0 (2 ^ 16))) < (((⟨[0, 1, 2, 2, 3, 3, 3, 3, 4, 4, 4, 4, 4, 4, 4, 4, 5, 5, 5, 5, 5, 5, 5, 5, 5, 5, 5, 5, 5, 5, 5, 5, 6, 6, 6, 6, 6, 6, 6, 6, 6, 6, 6, 6, 6, 6, 6, 6, 6, 6, 6, 6, 6, 6, 6, 6, 6, 6, 6, 6, 6, 6, 6, 6, 7, 7, 7, 7, 7, 7, 7, 7, 7, 7, 7, 7, 7, 7, 7, 7, 7, 7, 7, 7, 7, 7, 7, 7, 7, 7, 7, 7, 7, 7, 7, 7, 7, 7, 7, 7, 7, 7, 7, 7, 7, 7, 7, 7, 7, 7, 7, 7, 7, 7, 7, 7, 7, 7, 7, 7, 7, 7, 7, 7, 7, 7, 7, 7, 8, 8, 8, 8, 8, 8, 8, 8, 8, 8, 8, 8, 8, 8, 8, 8, 8, 8, 8, 8, 8, 8, 8, 8, 8, 8, 8, 8, 8, 8, 8, 8, 8, 8, 8, 8, 8, 8, 8, 8, 8, 8, 8, 8, 8, 8, 8, 8, 8, 8, 8, 8, 8, 8, 8, 8, 8, 8, 8, 8, 8, 8, 8, 8, 8, 8, 8, 8, 8, 8, 8, 8, 8, 8, 8, 8, 8, 8, 8, 8, 8, 8, 8, 8, 8, 8, 8, 8, 8, 8, 8, 8, 8, 8, 8, 8, 8, 8, 8, 8, 8, 8, 8, 8, 8, 8, 8, 8, 8, 8, 8, 8, 8, 8, 8, 8, 8, 8, 8, 8, 8, 8, 8, 8, 8, 8, 8, 8].toArray⟩ : ByteArray).size : Nat) : Int))
        (.leaf (IntKind.i64.wrap (16 + (IntKind.i64.wrap ((((⟨[0, 1, 2, 2, 3, 3, 3, 3, 4, 4, 4, 4, 4, 4, 4, 4, 5, 5, 5, 5, 5, 5, 5, 5, 5, 5, 5, 5, 5, 5, 5, 5, 6, 6, 6, 6, 6, 6, 6, 6, 6, 6, 6, 6, 6, 6, 6, 6, 6, 6, 6, 6, 6, 6, 6, 6, 6, 6, 6, 6, 6, 6, 6, 6, 7, 7, 7, 7, 7, 7, 7, 7, 7, 7, 7, 7, 7, 7, 7, 7, 7, 7, 7, 7, 7, 7, 7, 7, 7, 7, 7, 7, 7, 7, 7, 7, 7, 7, 7, 7, 7, 7, 7, 7, 7, 7, 7, 7, 7, 7, 7, 7, 7, 7, 7, 7, 7, 7, 7, 7, 7, 7, 7, 7, 7, 7, 7, 7, 8, 8, 8, 8, 8, 8, 8, 8, 8, 8, 8, 8, 8, 8, 8, 8, 8, 8, 8, 8, 8, 8, 8, 8, 8, 8, 8, 8, 8, 8, 8, 8, 8, 8, 8, 8, 8, 8, 8, 8, 8, 8, 8, 8, 8, 8, 8, 8, 8, 8, 8, 8, 8, 8, 8, 8, 8, 8, 8, 8, 8, 8, 8, 8, 8, 8, 8, 8, 8, 8, 8, 8, 8, 8, 8, 8, 8, 8, 8, 8, 8, 8, 8, 8, 8, 8, 8, 8, 8, 8, 8, 8, 8, 8, 8, 8, 8, 8, 8, 8, 8, 8, 8, 8, 8, 8, 8, 8, 8, 8, 8, 8, 8, 8, 8, 8, 8, 8, 8, 8, 8, 8, 8, 8, 8, 8, 8, 8].toArray⟩ : ByteArray).data.toList.getD (IntKind.u8.wrap (Int.fdiv a0 (2 ^ 16))).toNat 0).toNat : Nat) : Int))))))))
      (.ite (decide (a0 ≥ 256))
        (.guard ((0 : Int) ≤ 8)
        (.guard ((0 : Int) ≤ (IntKind.u8.wrap (Int.fdiv a0 (2 ^ 8))) ∧ (IntKind.u8.wrap (Int.fdiv a0 (2 ^ 8))) < (((⟨[0, 1, 2, 2, 3, 3, 3, 3, 4, 4, 4, 4, 4, 4, 4, 4, 5, 5, 5, 5, 5, 5, 5, 5, 5, 5, 5, 5, 5, 5, 5, 5, 6, 6, 6, 6, 6, 6, 6, 6, 6, 6, 6, 6, 6, 6, 6, 6, 6, 6, 6, 6, 6, 6, 6, 6, 6, 6, 6, 6, 6, 6, 6, 6, 7, 7, 7, 7, 7, 7, 7, 7, 7, 7, 7, 7, 7, 7, 7, 7, 7, 7, 7, 7, 7, 7, 7, 7, 7, 7, 7, 7, 7, 7, 7, 7, 7, 7, 7, 7, 7, 7, 7, 7, 7, 7, 7, 7, 7, 7, 7, 7, 7, 7, 7, 7, 7, 7, 7, 7, 7, 7, 7, 7, 7, 7, 7, 7, 8, 8, 8, 8, 8, 8, 8, 8, 8, 8, 8, 8, 8, 8, 8, 8, 8, 8, 8, 8, 8, 8, 8, 8, 8, 8, 8, 8, 8, 8, 8, 8, 8, 8, 8, 8, 8, 8, 8, 8, 8, 8, 8, 8, 8, 8, 8, 8, 8, 8, 8, 8, 8, 8, 8, 8, 8, 8, 8, 8, 8, 8, 8, 8, 8, 8, 8, 8, 8, 8, 8, 8, 8, 8, 8, 8, 8, 8, 8, 8, 8, 8, 8, 8, 8, 8, 8, 8, 8, 8, 8, 8, 8, 8, 8, 8, 8, 8, 8, 8, 8, 8, 8, 8, 8, 8, 8, 8, 8, 8, 8, 8, 8, 8, 8, 8, 8, 8, 8, 8, 8, 8, 8, 8, 8, 8, 8, 8].toArray⟩ : ByteArray).size : Nat) : Int))
        (.leaf (IntKind.i64.wrap (8 + (IntKind.i64.wrap ((((⟨[0, 1, 2, 2, 3, 3, 3, 3, 4, 4, 4, 4, 4, 4, 4, 4, 5, 5, 5, 5, 5, 5, 5, 5, 5, 5, 5, 5, 5, 5, 5, 5, 6, 6, 6, 6, 6, 6, 6, 6, 6, 6, 6, 6, 6, 6, 6, 6, 6, 6, 6, 6, 6, 6, 6, 6, 6, 6, 6, 6, 6, 6, 6, 6, 7, 7, 7, 7, 7, 7, 7, 7, 7, 7, 7, 7, 7, 7, 7, 7, 7, 7, 7, 7, 7, 7, 7, 7, 7, 7, 7, 7, 7, 7, 7, 7, 7, 7, 7, 7, 7, 7, 7, 7, 7, 7, 7, 7, 7, 7, 7, 7, 7, 7, 7, 7, 7, 7, 7, 7, 7, 7, 7, 7, 7, 7, 7, 7, 8, 8, 8, 8, 8, 8, 8, 8, 8, 8, 8, 8, 8, 8, 8, 8, 8, 8, 8, 8, 8, 8, 8, 8, 8, 8, 8, 8, 8, 8, 8, 8, 8, 8, 8, 8, 8, 8, 8, 8, 8, 8, 8, 8, 8, 8, 8, 8, 8, 8, 8, 8, 8, 8, 8, 8, 8, 8, 8, 8, 8, 8, 8, 8, 8, 8, 8, 8, 8, 8, 8, 8, 8, 8, 8, 8, 8, 8, 8, 8, 8, 8, 8, 8, 8, 8, 8, 8, 8, 8, 8, 8, 8, 8, 8, 8, 8, 8, 8, 8, 8, 8, 8, 8, 8, 8, 8, 8, 8, 8, 8, 8, 8, 8, 8, 8, 8, 8, 8, 8, 8, 8, 8, 8, 8, 8, 8, 8].toArray⟩ : ByteArray).data.toList.getD (IntKind.u8.wrap (Int.fdiv a0 (2 ^ 8))).toNat 0).toNat : Nat) : Int)))))))
        (.guard ((0 : Int) ≤ (IntKind.u8.wrap a0) ∧ (IntKind.u8.wrap a0) < (((⟨[0, 1, 2, 2, 3, 3, 3, 3, 4, 4, 4, 4, 4, 4, 4, 4, 5, 5, 5, 5, 5, 5, 5, 5, 5, 5, 5, 5, 5, 5, 5, 5, 6, 6, 6, 6, 6, 6, 6, 6, 6, 6, 6, 6, 6, 6, 6, 6, 6, 6, 6, 6, 6, 6, 6, 6, 6, 6, 6, 6, 6, 6, 6, 6, 7, 7, 7, 7, 7, 7, 7, 7, 7, 7, 7, 7, 7, 7, 7, 7, 7, 7, 7, 7, 7, 7, 7, 7, 7, 7, 7, 7, 7, 7, 7, 7, 7, 7, 7, 7, 7, 7, 7, 7, 7, 7, 7, 7, 7, 7, 7, 7, 7, 7, 7, 7, 7, 7, 7, 7, 7, 7, 7, 7, 7, 7, 7, 7, 8, 8, 8, 8, 8, 8, 8, 8, 8, 8, 8, 8, 8, 8, 8, 8, 8, 8, 8, 8, 8, 8, 8, 8, 8, 8, 8, 8, 8, 8, 8, 8, 8, 8, 8, 8, 8, 8, 8, 8, 8, 8, 8, 8, 8, 8, 8, 8, 8, 8, 8, 8, 8, 8, 8, 8, 8, 8, 8, 8, 8, 8, 8, 8, 8, 8, 8, 8, 8, 8, 8, 8, 8, 8, 8, 8, 8, 8, 8, 8, 8, 8, 8, 8, 8, 8, 8, 8, 8, 8, 8, 8, 8, 8, 8, 8, 8, 8, 8, 8, 8, 8, 8, 8, 8, 8, 8, 8, 8, 8, 8, 8, 8, 8, 8, 8, 8, 8, 8, 8, 8, 8, 8, 8, 8, 8, 8, 8].toArray⟩ : ByteArray).size : Nat) : Int))
        (.leaf (IntKind.i64.wrap (0 + (IntKind.i64.wrap ((((⟨[0, 1, 2, 2, 3, 3, 3, 3, 4, 4, 4, 4, 4, 4, 4, 4, 5, 5, 5, 5, 5, 5, 5, 5, 5, 5, 5, 5, 5, 5, 5, 5, 6, 6, 6, 6, 6, 6, 6, 6, 6, 6, 6, 6, 6, 6, 6, 6, 6, 6, 6, 6, 6, 6, 6, 6, 6, 6, 6, 6, 6, 6, 6, 6, 7, 7, 7, 7, 7, 7, 7, 7, 7, 7, 7, 7, 7, 7, 7, 7, 7, 7, 7, 7, 7, 7, 7, 7, 7, 7, 7, 7, 7, 7, 7, 7, 7, 7, 7, 7, 7, 7, 7, 7, 7, 7, 7, 7, 7, 7, 7, 7, 7, 7, 7, 7, 7, 7, 7, 7, 7, 7, 7, 7, 7, 7, 7, 7, 8, 8, 8, 8, 8, 8, 8, 8, 8, 8, 8, 8, 8, 8, 8, 8, 8, 8, 8, 8, 8, 8, 8, 8, 8, 8, 8, 8, 8, 8, 8, 8, 8, 8, 8, 8, 8, 8, 8, 8, 8, 8, 8, 8, 8, 8, 8, 8, 8, 8, 8, 8, 8, 8, 8, 8, 8, 8, 8, 8, 8, 8, 8, 8, 8, 8, 8, 8, 8, 8, 8, 8, 8, 8, 8, 8, 8, 8, 8, 8, 8, 8, 8, 8, 8, 8, 8, 8, 8, 8, 8, 8, 8, 8, 8, 8, 8, 8, 8, 8, 8, 8, 8, 8, 8, 8, 8, 8, 8, 8, 8, 8, 8, 8, 8, 8, 8, 8, 8, 8, 8, 8, 8, 8, 8, 8, 8, 8].toArray⟩ : ByteArray).data.toList.getD (IntKind.u8.wrap a0).toNat 0).toNat : Nat) : Int)))))))))
def sh_math_bits_Len64 (a0 : Int) : Option (Int) := (T_math_bits_Len64 a0).run
def zr2 : LQ (Int) := (Par.q (kP .u64))
def qr_math_bits_Len64 : LQ (Int) := (Par.q intP)
def F_math_bits_Len64 : SpecT := specF 0 zr2 1 [] (fun s => T_math_bits_Len64 s) default qr_math_bits_Len64 1 []
theorem ok_math_bits_Len64 : SpecOk Tryz.prog 165 (F_math_bits_Len64).spec :=
  specF_ok (A := za2) zh2 Facts.mix Tryz.func165 (c := zc2) (by kernel_rfl) (Lc := 0) trivial zr2 1 2 [] (fun s => T_math_bits_Len64 s) default qr_math_bits_Len64 1 [] [] (by decide) (by kernel_rfl) (by rfl) (by decide) (by decide) (by rfl)
    (by rintro a0; kernel_rfl)

noncomputable def zc3 : Code := Tryz.f186.body.getD .skip
def zv3 : List (List Nat) := [[0], [2]]
noncomputable def zy3 : EnvT := ⟨Tryz.prog, lookT [(165, F_math_bits_Len64)]⟩
theorem zh3 : (zy3).Ok := lookT_ok ⟨ok_math_bits_Len64, trivial⟩
def za3 : Ann := ⟨[], [], [], zv3, []⟩
def T_math_bits_LeadingZeros64 (a0 : Int) : Tr (Int) :=
  (.bind (sh_math_bits_Len64 a0) fun v1 =>
  (.leaf (IntKind.i64.wrap (64 - v1))))
def sh_math_bits_LeadingZeros64 (a0 : Int) : Option (Int) := (T_math_bits_LeadingZeros64 a0).run
def zr3 : LQ (Int) := (Par.q (kP .u64))
def qr_math_bits_LeadingZeros64 : LQ (Int) := (Par.q intP)
def F_math_bits_LeadingZeros64 : SpecT := specF 0 zr3 1 [] (fun s => T_math_bits_LeadingZeros64 s) default qr_math_bits_LeadingZeros64 1 []
theorem ok_math_bits_LeadingZeros64 : SpecOk Tryz.prog 186 (F_math_bits_LeadingZeros64).spec :=
  specF_ok (A := za3) zh3 Facts.mix Tryz.func186 (c := zc3) (by kernel_rfl) (Lc := 0) trivial zr3 1 2 [] (fun s => T_math_bits_LeadingZeros64 s) default qr_math_bits_LeadingZeros64 1 [] [] (by decide) (by kernel_rfl) (by rfl) (by decide) (by decide) (by rfl)
    (by rintro a0; kernel_rfl)

noncomputable def zc4 : Code := Tryz.f174.body.getD .skip
def zv4 : List (List Nat) := [[0, 1, 2], [0, 1, 2, 20], [0, 1, 2], [0, 1, 2, 24], [0, 1, 2], [0, 1, 2, 27], [6, 7], [0, 1, 2, 8], [0, 1, 2, 8], [0, 1, 2, 8, 9], [0, 1, 2, 8, 9, 10], [1, 2, 8, 9, 10, 11], [2, 8, 9, 10, 11, 12], [2, 8, 9, 10, 11, 12, 13], [2, 8, 9, 10, 11, 13, 14], [2, 8, 9, 10, 11, 13, 14, 15], [2, 8, 9, 10, 11, 13, 14, 15, 16], [2, 8, 9, 10, 11, 13, 14, 15, 16, 78], [2, 8, 9, 10, 11, 13, 14, 15, 16], [2, 8, 9, 10, 11, 13, 14, 15, 16], [2, 8, 9, 10, 11, 13, 14, 15, 16, 85], [2, 8, 9, 10, 14, 15, 17], [2, 8, 9, 10, 14, 15, 17, 18], [2, 8, 9, 10, 14, 15, 16, 17, 18], [2, 8, 9, 10, 14, 15, 16, 17, 18, 113], [2, 8, 9, 10, 14, 15, 16, 17, 18], [2, 8, 9, 10, 14, 15, 16, 17, 18], [2, 8, 9, 10, 14, 15, 16, 17, 18, 120], [6, 7]]
noncomputable def zy4 : EnvT := ⟨Tryz.prog, lookT [(186, F_math_bits_LeadingZeros64)]⟩
theorem zh4 : (zy4).Ok := lookT_ok ⟨ok_math_bits_LeadingZeros64, trivial⟩
def T_math_bits_Div64_l1 (x0 : Int) (x1 : Int) (x2 : Int) (x3 : Int) (x4 : Int) (x5 : Int) (x6 : Int) (x7 : Int) (x8 : Int) : Tr ((Int × Int × Int × Int × Int × Int × Int × Int × Int) ⊕ (Int × Int × Int × Int × Int × Int × Int × Int)) :=
  (.ite ((decide (x7 ≥ 4294967296)) || (decide ((IntKind.u64.wrap (x7 * x3)) > (IntKind.u64.wrap ((IntKind.u64.wrap (4294967296 * x8)) + x5)))))
    (.ite (decide ((IntKind.u64.wrap (x8 + x2)) ≥ 4294967296))
      (.leaf (.inr (x0, x1, x2, x3, x4, x5, x6, IntKind.u64.wrap (x7 - 1))))
      (.leaf (.inl (x0, x1, x2, x3, x4, x5, x6, IntKind.u64.wrap (x7 - 1), IntKind.u64.wrap (x8 + x2)))))
    (.leaf (.inr (x0, x1, x2, x3, x4, x5, x6, x7))))
def sh_math_bits_Div64_l1 (x0 : Int) (x1 : Int) (x2 : Int) (x3 : Int) (x4 : Int) (x5 : Int) (x6 : Int) (x7 : Int) (x8 : Int) : Option (Int × Int × Int × Int × Int × Int × Int × Int) := iter (fun s : Int × Int × Int × Int × Int × Int × Int × Int × Int => (T_math_bits_Div64_l1 s.1 s.2.1 s.2.2.1 s.2.2.2.1 s.2.2.2.2.1 s.2.2.2.2.2.1 s.2.2.2.2.2.2.1 s.2.2.2.2.2.2.2.1 s.2.2.2.2.2.2.2.2).run) (x0, x1, x2, x3, x4, x5, x6, x7, x8)
def za4a : Ann := ⟨[], [], [], zv4, []⟩
def zq4a : EndD (Int × Int × Int × Int × Int × Int × Int × Int × Int) := ⟨(LQ.seq (Par.q (kP .u64)) (LQ.seq (Par.q (kP .u64)) (LQ.seq (Par.q (kP .u64)) (LQ.seq (Par.q (kP .u64)) (LQ.seq (Par.q (kP .u64)) (LQ.seq (Par.q (kP .u64)) (LQ.seq (Par.q (kP .u64)) (LQ.seq (Par.q (kP .u64)) (Par.q (kP .u64)))))))))), ⟨[2, 8, 9, 10, 11, 13, 14, 15, 16], []⟩, []⟩
def zq4ae0 : EndD (Int × Int × Int × Int × Int × Int × Int × Int) := ⟨(LQ.seq (Par.q (kP .u64)) (LQ.seq (Par.q (kP .u64)) (LQ.seq (Par.q (kP .u64)) (LQ.seq (Par.q (kP .u64)) (LQ.seq (Par.q (kP .u64)) (LQ.seq (Par.q (kP .u64)) (LQ.seq (Par.q (kP .u64)) (Par.q (kP .u64))))))))), ⟨[2, 8, 9, 10, 11, 13, 14, 15], []⟩, []⟩
def zl4a : St → Option LR := L1 135 2 0 zq4a (.exit 0) zq4ae0 (fun s => T_math_bits_Div64_l1 s.1 s.2.1 s.2.2.1 s.2.2.2.1 s.2.2.2.2.1 s.2.2.2.2.2.1 s.2.2.2.2.2.2.1 s.2.2.2.2.2.2.2.1 s.2.2.2.2.2.2.2.2)
theorem zk4a : PieceOk (zy4).env 0 (sub zc4 [0, 0, 1, 1, 1, 1, 1, 1, 1, 1, 1, 1, 1, 1, 1, 1]) zl4a :=
  loop1 (A := za4a) zh4 Facts.mix trivial (k := loopB (sub zc4 [0, 0, 1, 1, 1, 1, 1, 1, 1, 1, 1, 1, 1, 1, 1, 1])) (by kernel_rfl) rfl (by rintro ⟨x0, x1, x2, x3, x4, x5, x6, x7, x8⟩; kernel_rfl)
def T_math_bits_Div64_l2 (x0 : Int) (x1 : Int) (x2 : Int) (x3 : Int) (x4 : Int) (x5 : Int) (x6 : Int) (x7 : Int) (x8 : Int) : Tr ((Int × Int × Int × Int × Int × Int × Int × Int × Int) ⊕ (Int × Int × Int × Int × Int × Int)) :=
  (.ite ((decide (x8 ≥ 4294967296)) || (decide ((IntKind.u64.wrap (x8 * x3)) > (IntKind.u64.wrap ((IntKind.u64.wrap (4294967296 * x6)) + x4)))))
    (.ite (decide ((IntKind.u64.wrap (x6 + x2)) ≥ 4294967296))
      (.leaf (.inr (x0, x1, x4, x5, x7, IntKind.u64.wrap (x8 - 1))))
      (.leaf (.inl (x0, x1, x2, x3, x4, x5, IntKind.u64.wrap (x6 + x2), x7, IntKind.u64.wrap (x8 - 1)))))
    (.leaf (.inr (x0, x1, x4, x5, x7, x8))))
def sh_math_bits_Div64_l2 (x0 : Int) (x1 : Int) (x2 : Int) (x3 : Int) (x4 : Int) (x5 : Int) (x6 : Int) (x7 : Int) (x8 : Int) : Option (Int × Int × Int × Int × Int × Int) := iter (fun s : Int × Int × Int × Int × Int × Int × Int × Int × Int => (T_math_bits_Div64_l2 s.1 s.2.1 s.2.2.1 s.2.2.2.1 s.2.2.2.2.1 s.2.2.2.2.2.1 s.2.2.2.2.2.2.1 s.2.2.2.2.2.2.2.1 s.2.2.2.2.2.2.2.2).run) (x0, x1, x2, x3, x4, x5, x6, x7, x8)
def za4b : Ann := ⟨[], [], [], zv4, []⟩
def zq4b : EndD (Int × Int × Int × Int × Int × Int × Int × Int × Int) := ⟨(LQ.seq (Par.q (kP .u64)) (LQ.seq (Par.q (kP .u64)) (LQ.seq (Par.q (kP .u64)) (LQ.seq (Par.q (kP .u64)) (LQ.seq (Par.q (kP .u64)) (LQ.seq (Par.q (kP .u64)) (LQ.seq (Par.q (kP .u64)) (LQ.seq (Par.q (kP .u64)) (Par.q (kP .u64)))))))))), ⟨[2, 8, 9, 10, 14, 15, 16, 17, 18], []⟩, []⟩
def zq4be0 : EndD (Int × Int × Int × Int × Int × Int) := ⟨(LQ.seq (Par.q (kP .u64)) (LQ.seq (Par.q (kP .u64)) (LQ.seq (Par.q (kP .u64)) (LQ.seq (Par.q (kP .u64)) (LQ.seq (Par.q (kP .u64)) (Par.q (kP .u64))))))), ⟨[2, 8, 14, 15, 17, 18], []⟩, []⟩
def zl4b : St → Option LR := L1 135 2 0 zq4b (.exit 2) zq4be0 (fun s => T_math_bits_Div64_l2 s.1 s.2.1 s.2.2.1 s.2.2.2.1 s.2.2.2.2.1 s.2.2.2.2.2.1 s.2.2.2.2.2.2.1 s.2.2.2.2.2.2.2.1 s.2.2.2.2.2.2.2.2)
theorem zk4b : PieceOk (zy4).env 0 (sub zc4 [0, 0, 1, 1, 1, 1, 1, 1, 1, 1, 1, 1, 1, 1, 1, 1, 1, 1, 1, 1]) zl4b :=
  loop1 (A := za4b) zh4 Facts.mix trivial (k := loopB (sub zc4 [0, 0, 1, 1, 1, 1, 1, 1, 1, 1, 1, 1, 1, 1, 1, 1, 1, 1, 1, 1])) (by kernel_rfl) rfl (by rintro ⟨x0, x1, x2, x3, x4, x5, x6, x7, x8⟩; kernel_rfl)
def za4 : Ann := ⟨[([0, 0, 1, 1, 1, 1, 1, 1, 1, 1, 1, 1, 1, 1, 1, 1], zl4a), ([0, 0, 1, 1, 1, 1, 1, 1, 1, 1, 1, 1, 1, 1, 1, 1, 1, 1, 1, 1], zl4b)], [], [], zv4, []⟩
def T_math_bits_Div64 (a0 : Int) (a1 : Int) (a2 : Int) : Tr (Int × Int) :=
  (.ite (a2 == 0)
    .fail
    (.ite (decide (a2 ≤ a0))
      .fail
      (.ite (a0 == 0)
        (.guard (a2 ≠ 0)
        (.guard (a2 ≠ 0)
        (.leaf (IntKind.u64.wrap (Int.tdiv a1 a2), Int.tmod a1 a2))))
        (.bind (sh_math_bits_LeadingZeros64 a2) fun v1 =>
        (.guard ((0 : Int) ≤ (IntKind.u64.wrap v1))
        (.guard ((0 : Int) ≤ 32)
        (.guard ((0 : Int) ≤ (IntKind.u64.wrap v1))
        (.guard ((0 : Int) ≤ (IntKind.u64.wrap (64 - (IntKind.u64.wrap v1))))
        (.guard ((0 : Int) ≤ (IntKind.u64.wrap v1))
        (.guard ((0 : Int) ≤ 32)
        (.guard ((Int.fdiv (IntKind.u64.wrap (a2 * 2 ^ (min (IntKind.u64.wrap v1).toNat 64))) (2 ^ 32)) ≠ 0)
        (.bind (sh_math_bits_Div64_l1 (IntKind.u64.wrap (a2 * 2 ^ (min (IntKind.u64.wrap v1).toNat 64))) (IntKind.u64.wrap v1) (Int.fdiv (IntKind.u64.wrap (a2 * 2 ^ (min (IntKind.u64.wrap v1).toNat 64))) (2 ^ 32)) (IntKind.u64.wrap (((BitVec.ofInt 64 (IntKind.u64.wrap (a2 * 2 ^ (min (IntKind.u64.wrap v1).toNat 64))) &&& BitVec.ofInt 64 4294967295).toNat : Nat) : Int)) (IntKind.u64.wrap (((BitVec.ofInt 64 (IntKind.u64.wrap (a0 * 2 ^ (min (IntKind.u64.wrap v1).toNat 64))) ||| BitVec.ofInt 64 (Int.fdiv a1 (2 ^ (min (IntKind.u64.wrap (64 - (IntKind.u64.wrap v1))).toNat 64)))).toNat : Nat) : Int)) (Int.fdiv (IntKind.u64.wrap (a1 * 2 ^ (min (IntKind.u64.wrap v1).toNat 64))) (2 ^ 32)) (IntKind.u64.wrap (((BitVec.ofInt 64 (IntKind.u64.wrap (a1 * 2 ^ (min (IntKind.u64.wrap v1).toNat 64))) &&& BitVec.ofInt 64 4294967295).toNat : Nat) : Int)) (IntKind.u64.wrap (Int.tdiv (IntKind.u64.wrap (((BitVec.ofInt 64 (IntKind.u64.wrap (a0 * 2 ^ (min (IntKind.u64.wrap v1).toNat 64))) ||| BitVec.ofInt 64 (Int.fdiv a1 (2 ^ (min (IntKind.u64.wrap (64 - (IntKind.u64.wrap v1))).toNat 64)))).toNat : Nat) : Int)) (Int.fdiv (IntKind.u64.wrap (a2 * 2 ^ (min (IntKind.u64.wrap v1).toNat 64))) (2 ^ 32)))) (IntKind.u64.wrap ((IntKind.u64.wrap (((BitVec.ofInt 64 (IntKind.u64.wrap (a0 * 2 ^ (min (IntKind.u64.wrap v1).toNat 64))) ||| BitVec.ofInt 64 (Int.fdiv a1 (2 ^ (min (IntKind.u64.wrap (64 - (IntKind.u64.wrap v1))).toNat 64)))).toNat : Nat) : Int)) - (IntKind.u64.wrap ((IntKind.u64.wrap (Int.tdiv (IntKind.u64.wrap (((BitVec.ofInt 64 (IntKind.u64.wrap (a0 * 2 ^ (min (IntKind.u64.wrap v1).toNat 64))) ||| BitVec.ofInt 64 (Int.fdiv a1 (2 ^ (min (IntKind.u64.wrap (64 - (IntKind.u64.wrap v1))).toNat 64)))).toNat : Nat) : Int)) (Int.fdiv (IntKind.u64.wrap (a2 * 2 ^ (min (IntKind.u64.wrap v1).toNat 64))) (2 ^ 32)))) * (Int.fdiv (IntKind.u64.wrap (a2 * 2 ^ (min (IntKind.u64.wrap v1).toNat 64))) (2 ^ 32))))))) fun v2 =>
        (.guard (v2.2.2.1 ≠ 0)
        (.bind (sh_math_bits_Div64_l2 v2.1 v2.2.1 v2.2.2.1 v2.2.2.2.1 v2.2.2.2.2.2.2.1 v2.2.2.2.2.2.2.2 (IntKind.u64.wrap ((IntKind.u64.wrap ((IntKind.u64.wrap ((IntKind.u64.wrap (v2.2.2.2.2.1 * 4294967296)) + v2.2.2.2.2.2.1)) - (IntKind.u64.wrap (v2.2.2.2.2.2.2.2 * v2.1)))) - (IntKind.u64.wrap ((IntKind.u64.wrap (Int.tdiv (IntKind.u64.wrap ((IntKind.u64.wrap ((IntKind.u64.wrap (v2.2.2.2.2.1 * 4294967296)) + v2.2.2.2.2.2.1)) - (IntKind.u64.wrap (v2.2.2.2.2.2.2.2 * v2.1)))) v2.2.2.1)) * v2.2.2.1)))) (IntKind.u64.wrap ((IntKind.u64.wrap ((IntKind.u64.wrap (v2.2.2.2.2.1 * 4294967296)) + v2.2.2.2.2.2.1)) - (IntKind.u64.wrap (v2.2.2.2.2.2.2.2 * v2.1)))) (IntKind.u64.wrap (Int.tdiv (IntKind.u64.wrap ((IntKind.u64.wrap ((IntKind.u64.wrap (v2.2.2.2.2.1 * 4294967296)) + v2.2.2.2.2.2.1)) - (IntKind.u64.wrap (v2.2.2.2.2.2.2.2 * v2.1)))) v2.2.2.1))) fun v3 =>
        (.guard ((0 : Int) ≤ v3.2.1)
        (.leaf (IntKind.u64.wrap ((IntKind.u64.wrap (v3.2.2.2.1 * 4294967296)) + v3.2.2.2.2.2), Int.fdiv (IntKind.u64.wrap ((IntKind.u64.wrap ((IntKind.u64.wrap (v3.2.2.2.2.1 * 4294967296)) + v3.2.2.1)) - (IntKind.u64.wrap (v3.2.2.2.2.2 * v3.1)))) (2 ^ (min v3.2.1.toNat 64)))))))))))))))))))
def sh_math_bits_Div64 (a0 : Int) (a1 : Int) (a2 : Int) : Option (Int × Int) := (T_math_bits_Div64 a0 a1 a2).run
def zr4 : LQ (Int × Int × Int) := (LQ.seq (Par.q (kP .u64)) (LQ.seq (Par.q (kP .u64)) (Par.q (kP .u64))))
def qr_math_bits_Div64 : LQ (Int × Int) := (LQ.seq (Par.q (kP .u64)) (Par.q (kP .u64)))
def F_math_bits_Div64 : SpecT := specF 0 zr4 3 [] (fun s => T_math_bits_Div64 s.1 s.2.1 s.2.2) default qr_math_bits_Div64 2 []
theorem ok_math_bits_Div64 : SpecOk Tryz.prog 174 (F_math_bits_Div64).spec :=
  specF_ok (A := za4) zh4 Facts.mix Tryz.func174 (c := zc4) (by kernel_rfl) (Lc := 0) ⟨zk4a, zk4b, trivial⟩ zr4 3 2 [] (fun s => T_math_bits_Div64 s.1 s.2.1 s.2.2) default qr_math_bits_Div64 2 [] [] (by decide) (by kernel_rfl) (by rfl) (by decide) (by decide) (by rfl)
    (by rintro ⟨a0, a1, a2⟩; kernel_rfl)

noncomputable def zc5 : Code := Tryz.f128.body.getD .skip
def zv5 : List (List Nat) := [[0, 1, 2], [0, 1, 2, 21], [6, 7], [2, 8, 9], [2, 8, 9, 33], [6, 7], [10], [10, 43], [6, 7], [6, 7]]
noncomputable def zy5 : EnvT := ⟨Tryz.prog, lookT [(173, F_math_bits_Mul64), (174, F_math_bits_Div64)]⟩
theorem zh5 : (zy5).Ok := lookT_ok ⟨ok_math_bits_Mul64, ok_math_bits_Div64, trivial⟩
def za5 : Ann := ⟨[], [], [], zv5, []⟩
def T_ratio_MulDiv (a0 : Int) (a1 : Int) (a2 : Int) : Tr (Int × Int) :=
  (.ite (((decide (a0 < 0)) || (decide (a1 < 0))) || (decide (a2 < 1)))
    (.leaf (0, 2))
    (.bind (sh_math_bits_Mul64 (IntKind.u64.wrap a0) (IntKind.u64.wrap a1)) fun v1 =>
    (.ite (decide (v1.1 ≥ (IntKind.u64.wrap a2)))
      (.leaf (0, 2))
      (.bind (sh_math_bits_Div64 v1.1 v1.2 (IntKind.u64.wrap a2)) fun v2 =>
      (.ite (decide (v2.1 > 1125899906842624))
        (.leaf (0, 2))
        (.leaf (IntKind.i64.wrap v2.1, 0)))))))
def sh_ratio_MulDiv (a0 : Int) (a1 : Int) (a2 : Int) : Option (Int × Int) := (T_ratio_MulDiv a0 a1 a2).run
def zr5 : LQ (Int × Int × Int) := (LQ.seq (Par.q intP) (LQ.seq (Par.q intP) (Par.q intP)))
def qr_ratio_MulDiv : LQ (Int × Int) := (LQ.seq (Par.q intP) (Par.q intP))
def F_ratio_MulDiv : SpecT := specF 0 zr5 3 [] (fun s => T_ratio_MulDiv s.1 s.2.1 s.2.2) default qr_ratio_MulDiv 2 []
theorem ok_ratio_MulDiv : SpecOk Tryz.prog 128 (F_ratio_MulDiv).spec :=
  specF_ok (A := za5) zh5 Facts.mix Tryz.func128 (c := zc5) (by kernel_rfl) (Lc := 0) trivial zr5 3 2 [] (fun s => T_ratio_MulDiv s.1 s.2.1 s.2.2) default qr_ratio_MulDiv 2 [] [] (by decide) (by kernel_rfl) (by rfl) (by decide) (by decide) (by rfl)
    (by rintro ⟨a0, a1, a2⟩; kernel_rfl)

noncomputable def zc6 : Code := Tryz.f110.body.getD .skip
def zv6 : List (List Nat) := [[0, 1], [0, 1, 16], [4, 5], [4, 5]]
noncomputable def zy6 : EnvT := ⟨Tryz.prog, lookT [(117, F_ratio_In), (128, F_ratio_MulDiv)]⟩
theorem zh6 : (zy6).Ok := lookT_ok ⟨ok_ratio_In, ok_ratio_MulDiv, trivial⟩
def za6 : Ann := ⟨[], [], [], zv6, []⟩
def T_ratio_Part (a0 : Int) (a1 : Int) : Tr (Int × Int) :=
  (.bind (sh_ratio_In a0) fun v1 =>
  (.ite (((!v1) || (decide (a1 < 0))) || (decide (a1 > 1000)))
    (.leaf (0, 2))
    (.bind (sh_ratio_MulDiv a0 a1 1000) fun v2 =>
    (.leaf (v2.1, v2.2)))))
def sh_ratio_Part (a0 : Int) (a1 : Int) : Option (Int × Int) := (T_ratio_Part a0 a1).run
def zr6 : LQ (Int × Int) := (LQ.seq (Par.q intP) (Par.q intP))
def qr_ratio_Part : LQ (Int × Int) := (LQ.seq (Par.q intP) (Par.q intP))
def F_ratio_Part : SpecT := specF 0 zr6 2 [] (fun s => T_ratio_Part s.1 s.2) default qr_ratio_Part 2 []
theorem ok_ratio_Part : SpecOk Tryz.prog 110 (F_ratio_Part).spec :=
  specF_ok (A := za6) zh6 Facts.mix Tryz.func110 (c := zc6) (by kernel_rfl) (Lc := 0) trivial zr6 2 2 [] (fun s => T_ratio_Part s.1 s.2) default qr_ratio_Part 2 [] [] (by decide) (by kernel_rfl) (by rfl) (by decide) (by decide) (by rfl)
    (by rintro ⟨a0, a1⟩; kernel_rfl)

end
end Go.Proofs.YtknbejjfejdppaaGreat.Ab
