/-
  The functions, each by its tree.
-/
import Derived.Test.YtbpehnghffljiaaFacts
import Derived.Test.YtbpehnghffljiaaAbStructs
import Derived.Test.YtbpehnghffljiaaAbFun
namespace Go.Proofs.Ytbpehnghffljiaa.Ab
open Go Go.RowKit
set_option maxRecDepth 100000
set_option linter.unusedVariables false
set_option linter.unusedSimpArgs false

noncomputable def C_keep_pick : Code := Try.f71.body.getD .skip
noncomputable def live_keep_pick : List (List Nat) := [[0, 1], [0, 1], [0, 1, 9], [0], [4]]
noncomputable def Y_keep_pick : EnvT := ⟨Try.prog, lookT []⟩
theorem hY_keep_pick : (Y_keep_pick).Ok := lookT_ok trivial
noncomputable def A_keep_pick : Ann := ⟨[], [], [], live_keep_pick, []⟩
noncomputable def T_keep_pick (a0 : Int) (a1 : Int) : Tr (Int) :=
  (.guard (a1 ≠ 0)
  (.ite (decide ((Int.tmod a0 a1) < 0))
    (.leaf (IntKind.i64.wrap ((Int.tmod a0 a1) + a1)))
    (.leaf (Int.tmod a0 a1))))
noncomputable def sh_keep_pick (a0 : Int) (a1 : Int) : Option (Int) := (T_keep_pick a0 a1).run
noncomputable def qa_keep_pick : LQ (Int × Int) := (LQ.seq (Par.q intP) (Par.q intP))
noncomputable def qr_keep_pick : LQ (Int) := (Par.q intP)
noncomputable def F_keep_pick : SpecT := specF 0 qa_keep_pick 2 [] (fun s => T_keep_pick s.1 s.2) default qr_keep_pick 1 []
theorem ok_keep_pick : SpecOk Try.prog 71 (F_keep_pick).spec :=
  specF_ok (Y := Y_keep_pick) (A := A_keep_pick) hY_keep_pick Facts.mix Try.func71 (c := C_keep_pick) (by kernel_rfl) (Lc := 0) trivial qa_keep_pick 2 2 [] (fun s => T_keep_pick s.1 s.2) default qr_keep_pick 1 [] [] (by decide) (by kernel_rfl) (by rfl) (by decide) (by decide) (by rfl)
    (by rintro ⟨a0, a1⟩; kernel_rfl)

noncomputable def C_ratio_In : Code := Try.f59.body.getD .skip
noncomputable def live_ratio_In : List (List Nat) := [[0], [2]]
noncomputable def Y_ratio_In : EnvT := ⟨Try.prog, lookT []⟩
theorem hY_ratio_In : (Y_ratio_In).Ok := lookT_ok trivial
noncomputable def A_ratio_In : Ann := ⟨[], [], [], live_ratio_In, []⟩
noncomputable def T_ratio_In (a0 : Int) : Tr (Bool) :=
  (.leaf ((decide (a0 ≥ 0)) && (decide (a0 ≤ 1125899906842624))))
noncomputable def sh_ratio_In (a0 : Int) : Option (Bool) := (T_ratio_In a0).run
noncomputable def qa_ratio_In : LQ (Int) := (Par.q intP)
noncomputable def qr_ratio_In : LQ (Bool) := (Par.q boolP)
noncomputable def F_ratio_In : SpecT := specF 0 qa_ratio_In 1 [] (fun s => T_ratio_In s) default qr_ratio_In 1 []
theorem ok_ratio_In : SpecOk Try.prog 59 (F_ratio_In).spec :=
  specF_ok (Y := Y_ratio_In) (A := A_ratio_In) hY_ratio_In Facts.mix Try.func59 (c := C_ratio_In) (by kernel_rfl) (Lc := 0) trivial qa_ratio_In 1 2 [] (fun s => T_ratio_In s) default qr_ratio_In 1 [] [] (by decide) (by kernel_rfl) (by rfl) (by decide) (by decide) (by rfl)
    (by rintro a0; kernel_rfl)

noncomputable def C_math_bits_Mul64 : Code := Try.f80.body.getD .skip
noncomputable def live_math_bits_Mul64 : List (List Nat) := [[0, 1], [0, 1, 6], [0, 1, 6, 7], [0, 1, 6, 7, 8], [0, 1, 6, 7, 8, 9], [0, 1, 6, 7, 8, 9, 10], [0, 1, 6, 7, 9, 11], [0, 1, 6, 7, 9, 11, 12], [0, 1, 6, 7, 9, 12, 13], [0, 1, 7, 9, 12, 13], [0, 1, 4], [4, 5]]
noncomputable def Y_math_bits_Mul64 : EnvT := ⟨Try.prog, lookT []⟩
theorem hY_math_bits_Mul64 : (Y_math_bits_Mul64).Ok := lookT_ok trivial
noncomputable def A_math_bits_Mul64 : Ann := ⟨[], [], [], live_math_bits_Mul64, []⟩
noncomputable def T_math_bits_Mul64 (a0 : Int) (a1 : Int) : Tr (Int × Int) :=
  (.guard ((0 : Int) ≤ 32)
  (.guard ((0 : Int) ≤ 32)
  (.guard ((0 : Int) ≤ 32)
  (.guard ((0 : Int) ≤ 32)
  (.guard ((0 : Int) ≤ 32)
  (.leaf (IntKind.u64.wrap ((IntKind.u64.wrap ((IntKind.u64.wrap ((Int.fdiv a0 (2 ^ 32)) * (Int.fdiv a1 (2 ^ 32)))) + (Int.fdiv (IntKind.u64.wrap ((IntKind.u64.wrap ((Int.fdiv a0 (2 ^ 32)) * (IntKind.u64.wrap (((BitVec.ofInt 64 a1 &&& BitVec.ofInt 64 4294967295).toNat : Nat) : Int)))) + (Int.fdiv (IntKind.u64.wrap ((IntKind.u64.wrap (((BitVec.ofInt 64 a0 &&& BitVec.ofInt 64 4294967295).toNat : Nat) : Int)) * (IntKind.u64.wrap (((BitVec.ofInt 64 a1 &&& BitVec.ofInt 64 4294967295).toNat : Nat) : Int)))) (2 ^ 32)))) (2 ^ 32)))) + (Int.fdiv (IntKind.u64.wrap ((IntKind.u64.wrap (((BitVec.ofInt 64 (IntKind.u64.wrap ((IntKind.u64.wrap ((Int.fdiv a0 (2 ^ 32)) * (IntKind.u64.wrap (((BitVec.ofInt 64 a1 &&& BitVec.ofInt 64 4294967295).toNat : Nat) : Int)))) + (Int.fdiv (IntKind.u64.wrap ((IntKind.u64.wrap (((BitVec.ofInt 64 a0 &&& BitVec.ofInt 64 4294967295).toNat : Nat) : Int)) * (IntKind.u64.wrap (((BitVec.ofInt 64 a1 &&& BitVec.ofInt 64 4294967295).toNat : Nat) : Int)))) (2 ^ 32)))) &&& BitVec.ofInt 64 4294967295).toNat : Nat) : Int)) + (IntKind.u64.wrap ((IntKind.u64.wrap (((BitVec.ofInt 64 a0 &&& BitVec.ofInt 64 4294967295).toNat : Nat) : Int)) * (Int.fdiv a1 (2 ^ 32)))))) (2 ^ 32))), IntKind.u64.wrap (a0 * a1))))))))
noncomputable def sh_math_bits_Mul64 (a0 : Int) (a1 : Int) : Option (Int × Int) := (T_math_bits_Mul64 a0 a1).run
noncomputable def qa_math_bits_Mul64 : LQ (Int × Int) := (LQ.seq (Par.q (kP .u64)) (Par.q (kP .u64)))
noncomputable def qr_math_bits_Mul64 : LQ (Int × Int) := (LQ.seq (Par.q (kP .u64)) (Par.q (kP .u64)))
noncomputable def F_math_bits_Mul64 : SpecT := specF 0 qa_math_bits_Mul64 2 [] (fun s => T_math_bits_Mul64 s.1 s.2) default qr_math_bits_Mul64 2 []
theorem ok_math_bits_Mul64 : SpecOk Try.prog 80 (F_math_bits_Mul64).spec :=
  specF_ok (Y := Y_math_bits_Mul64) (A := A_math_bits_Mul64) hY_math_bits_Mul64 Facts.mix Try.func80 (c := C_math_bits_Mul64) (by kernel_rfl) (Lc := 0) trivial qa_math_bits_Mul64 2 2 [] (fun s => T_math_bits_Mul64 s.1 s.2) default qr_math_bits_Mul64 2 [] [] (by decide) (by kernel_rfl) (by rfl) (by decide) (by decide) (by rfl)
    (by rintro ⟨a0, a1⟩; kernel_rfl)

noncomputable def C_math_bits_Len64 : Code := Try.f111.body.getD .skip
noncomputable def live_math_bits_Len64 : List (List Nat) := [[0, 2], [0, 2, 4], [0], [0, 2], [0, 2, 8], [0, 2], [0, 2], [0, 2, 14], [0, 2], [0, 2], [2]]
noncomputable def Y_math_bits_Len64 : EnvT := ⟨Try.prog, lookT []⟩
theorem hY_math_bits_Len64 : (Y_math_bits_Len64).Ok := lookT_ok trivial
noncomputable def A_math_bits_Len64 : Ann := ⟨[], [], [], live_math_bits_Len64, []⟩
noncomputable def T_math_bits_Len64 (a0 : Int) : Tr (Int) :=
  (.ite (decide (a0 ≥ 4294967296))
    (.guard ((0 : Int) ≤ 32)
    (.ite (decide ((Int.fdiv a0 (2 ^ 32)) ≥ 65536))
      (.guard ((0 : Int) ≤ 16)
      (.ite (decide ((Int.fdiv (Int.fdiv a0 (2 ^ 32)) (2 ^ 16)) ≥ 256))
        (.guard ((0 : Int) ≤ 8)
        (.guard ((0 : Int) ≤ (IntKind.u8.wrap (Int.fdiv (Int.fdiv (Int.fdiv a0 (2 ^ 32)) (2 ^ 16)) (2 ^ 8))) ∧ (IntKind.u8.wrap (Int.fdiv (Int.fdiv (Int.fdiv a0 (2 ^ 32)) (2 ^ 16)) (2 ^ 8))) < (((⟨[0, 1, 2, 2, 3, 3, 3, 3, 4, 4, 4, 4, 4, 4, 4, 4, 5, 5, 5, 5, 5, 5, 5, 5, 5, 5, 5, 5, 5, 5, 5, 5, 6, 6, 6, 6, 6, 6, 6, 6, 6, 6, 6, 6, 6, 6, 6, 6, 6, 6, 6, 6, 6, 6, 6, 6, 6, 6, 6, 6, 6, 6, 6, 6, 7, 7, 7, 7, 7, 7, 7, 7, 7, 7, 7, 7, 7, 7, 7, 7, 7, 7, 7, 7, 7, 7, 7, 7, 7, 7, 7, 7, 7, 7, 7, 7, 7, 7, 7, 7, 7, 7, 7, 7, 7, 7, 7, 7, 7, 7, 7, 7, 7, 7, 7, 7, 7, 7, 7, 7, 7, 7, 7, 7, 7, 7, 7, 7, 8, 8, 8, 8, 8, 8, 8, 8, 8, 8, 8, 8, 8, 8, 8, 8, 8, 8, 8, 8, 8, 8, 8, 8, 8, 8, 8, 8, 8, 8, 8, 8, 8, 8, 8, 8, 8, 8, 8, 8, 8, 8, 8, 8, 8, 8, 8, 8, 8, 8, 8, 8, 8, 8, 8, 8, 8, 8, 8, 8, 8, 8, 8, 8, 8, 8, 8, 8, 8, 8, 8, 8, 8, 8, 8, 8, 8, 8, 8, 8, 8, 8, 8, 8, 8, 8, 8, 8, 8, 8, 8, 8, 8, 8, 8, 8, 8, 8, 8, 8, 8, 8, 8, 8, 8, 8, 8, 8, 8, 8, 8, 8, 8, 8, 8, 8, 8, 8, 8, 8, 8, 8, 8, 8, 8, 8, 8, 8].toArray⟩ : ByteArray).size : Nat) : Int))
        (.leaf (IntKind.i64.wrap (56 + (IntKind.i64.wrap ((((⟨[0, 1, 2, 2, 3, 3, 3, 3, 4, 4, 4, 4, 4, 4, 4, 4, 5, 5, 5, 5, 5, 5, 5, 5, 5, 5, 5, 5, 5, 5, 5, 5, 6, 6, 6, 6, 6, 6, 6, 6, 6, 6, 6, 6, 6, 6, 6, 6, 6, 6, 6, 6, 6, 6, 6, 6, 6, 6, 6, 6, 6, 6, 6, 6, 7, 7, 7, 7, 7, 7, 7, 7, 7, 7, 7, 7, 7, 7, 7, 7, 7, 7, 7, 7, 7, 7, 7, 7, 7, 7, 7, 7, 7, 7, 7, 7, 7, 7, 7, 7, 7, 7, 7, 7, 7, 7, 7, 7, 7, 7, 7, 7, 7, 7, 7, 7, 7, 7, 7, 7, 7, 7, 7, 7, 7, 7, 7, 7, 8, 8, 8, 8, 8, 8, 8, 8, 8, 8, 8, 8, 8, 8, 8, 8, 8, 8, 8, 8, 8, 8, 8, 8, 8, 8, 8, 8, 8, 8, 8, 8, 8, 8, 8, 8, 8, 8, 8, 8, 8, 8, 8, 8, 8, 8, 8, 8, 8, 8, 8, 8, 8, 8, 8, 8, 8, 8, 8, 8, 8, 8, 8, 8, 8, 8, 8, 8, 8, 8, 8, 8, 8, 8, 8, 8, 8, 8, 8, 8, 8, 8, 8, 8, 8, 8, 8, 8, 8, 8, 8, 8, 8, 8, 8, 8, 8, 8, 8, 8, 8, 8, 8, 8, 8, 8, 8, 8, 8, 8, 8, 8, 8, 8, 8, 8, 8, 8, 8, 8, 8, 8, 8, 8, 8, 8, 8, 8].toArray⟩ : ByteArray).data.toList.getD (IntKind.u8.wrap (Int.fdiv (Int.fdiv (Int.fdiv a0 (2 ^ 32)) (2 ^ 16)) (2 ^ 8))).toNat 0).toNat : Nat) : Int)))))))
        (.guard ((0 : Int) ≤ (IntKind.u8.wrap (Int.fdiv (Int.fdiv a0 (2 ^ 32)) (2 ^ 16))) ∧ (IntKind.u8.wrap (Int.fdiv (Int.fdiv a0 (2 ^ 32)) (2 ^ 16))) < (((⟨[0, 1, 2, 2, 3, 3, 3, 3, 4, 4, 4, 4, 4, 4, 4, 4, 5, 5, 5, 5, 5, 5, 5, 5, 5, 5, 5, 5, 5, 5, 5, 5, 6, 6, 6, 6, 6, 6, 6, 6, 6, 6, 6, 6, 6, 6, 6, 6, 6, 6, 6, 6, 6, 6, 6, 6, 6, 6, 6, 6, 6, 6, 6, 6, 7, 7, 7, 7, 7, 7, 7, 7, 7, 7, 7, 7, 7, 7, 7, 7, 7, 7, 7, 7, 7, 7, 7, 7, 7, 7, 7, 7, 7, 7, 7, 7, 7, 7, 7, 7, 7, 7, 7, 7, 7, 7, 7, 7, 7, 7, 7, 7, 7, 7, 7, 7, 7, 7, 7, 7, 7, 7, 7, 7, 7, 7, 7, 7, 8, 8, 8, 8, 8, 8, 8, 8, 8, 8, 8, 8, 8, 8, 8, 8, 8, 8, 8, 8, 8, 8, 8, 8, 8, 8, 8, 8, 8, 8, 8, 8, 8, 8, 8, 8, 8, 8, 8, 8, 8, 8, 8, 8, 8, 8, 8, 8, 8, 8, 8, 8, 8, 8, 8, 8, 8, 8, 8, 8, 8, 8, 8, 8, 8, 8, 8, 8, 8, 8, 8, 8, 8, 8, 8, 8, 8, 8, 8, 8, 8, 8, 8, 8, 8, 8, 8, 8, 8, 8, 8, 8, 8, 8, 8, 8, 8, 8, 8, 8, 8, 8, 8, 8, 8, 8, 8, 8, 8, 8, 8, 8, 8, 8, 8, 8, 8, 8, 8, 8, 8, 8, 8, 8, 8, 8, 8, 8].toArray⟩ : ByteArray).size : Nat) : Int))
        (.leaf (IntKind.i64.wrap (48 + (IntKind.i64.wrap ((((⟨[0, 1, 2, 2, 3, 3, 3, 3, 4, 4, 4, 4, 4, 4, 4, 4, 5, 5, 5, 5, 5, 5, 5, 5, 5, 5, 5, 5, 5, 5, 5, 5, 6, 6, 6, 6, 6, 6, 6, 6, 6, 6, 6, 6, 6, 6, 6, 6, 6, 6, 6, 6, 6, 6, 6, 6, 6, 6, 6, 6, 6, 6, 6, 6, 7, 7, 7, 7, 7, 7, 7, 7, 7, 7, 7, 7, 7, 7, 7, 7, 7, 7, 7, 7, 7, 7, 7, 7, 7, 7, 7, 7, 7, 7, 7, 7, 7, 7, 7, 7, 7, 7, 7, 7, 7, 7, 7, 7, 7, 7, 7, 7, 7, 7, 7, 7, 7, 7, 7, 7, 7, 7, 7, 7, 7, 7, 7, 7, 8, 8, 8, 8, 8, 8, 8, 8, 8, 8, 8, 8, 8, 8, 8, 8, 8, 8, 8, 8, 8, 8, 8, 8, 8, 8, 8, 8, 8, 8, 8, 8, 8, 8, 8, 8, 8, 8, 8, 8, 8, 8, 8, 8, 8, 8, 8, 8, 8, 8, 8, 8, 8, 8, 8, 8, 8, 8, 8, 8, 8, 8, 8, 8, 8, 8, 8, 8, 8, 8, 8, 8, 8, 8, 8, 8, 8, 8, 8, 8, 8, 8, 8, 8, 8, 8, 8, 8, 8, 8, 8, 8, 8, 8, 8, 8, 8, 8, 8, 8, 8, 8, 8, 8, 8, 8, 8, 8, 8, 8, 8, 8, 8, 8, 8, 8, 8, 8, 8, 8, 8, 8, 8, 8, 8, 8, 8, 8].toArray⟩ : ByteArray).data.toList.getD (IntKind.u8.wrap (Int.fdiv (Int.fdiv a0 (2 ^ 32)) (2 ^ 16))).toNat 0).toNat : Nat) : Int))))))))
      (.ite (decide ((Int.fdiv a0 (2 ^ 32)) ≥ 256))
        (.guard ((0 : Int) ≤ 8)
        (.guard ((0 : Int) ≤ (IntKind.u8.wrap (Int.fdiv (Int.fdiv a0 (2 ^ 32)) (2 ^ 8))) ∧ (IntKind.u8.wrap (Int.fdiv (Int.fdiv a0 (2 ^ 32)) (2 ^ 8))) < (((⟨[0, 1, 2, 2, 3, 3, 3, 3, 4, 4, 4, 4, 4, 4, 4, 4, 5, 5, 5, 5, 5, 5, 5, 5, 5, 5, 5, 5, 5, 5, 5, 5, 6, 6, 6, 6, 6, 6, 6, 6, 6, 6, 6, 6, 6, 6, 6, 6, 6, 6, 6, 6, 6, 6, 6, 6, 6, 6, 6, 6, 6, 6, 6, 6, 7, 7, 7, 7, 7, 7, 7, 7, 7, 7, 7, 7, 7, 7, 7, 7, 7, 7, 7, 7, 7, 7, 7, 7, 7, 7, 7, 7, 7, 7, 7, 7, 7, 7, 7, 7, 7, 7, 7, 7, 7, 7, 7, 7, 7, 7, 7, 7, 7, 7, 7, 7, 7, 7, 7, 7, 7, 7, 7, 7, 7, 7, 7, 7, 8, 8, 8, 8, 8, 8, 8, 8, 8, 8, 8, 8, 8, 8, 8, 8, 8, 8, 8, 8, 8, 8, 8, 8, 8, 8, 8, 8, 8, 8, 8, 8, 8, 8, 8, 8, 8, 8, 8, 8, 8, 8, 8, 8, 8, 8, 8, 8, 8, 8, 8, 8, 8, 8, 8, 8, 8, 8, 8, 8, 8, 8, 8, 8, 8, 8, 8, 8, 8, 8, 8, 8, 8, 8, 8, 8, 8, 8, 8, 8, 8, 8, 8, 8, 8, 8, 8, 8, 8, 8, 8, 8, 8, 8, 8, 8, 8, 8, 8, 8, 8, 8, 8, 8, 8, 8, 8, 8, 8, 8, 8, 8, 8, 8, 8, 8, 8, 8, 8, 8, 8, 8, 8, 8, 8, 8, 8, 8].toArray⟩ : ByteArray).size : Nat) : Int))
        (.leaf (IntKind.i64.wrap (40 + (IntKind.i64.wrap ((((⟨[0, 1, 2, 2, 3, 3, 3, 3, 4, 4, 4, 4, 4, 4, 4, 4, 5, 5, 5, 5, 5, 5, 5, 5, 5, 5, 5, 5, 5, 5, 5, 5, 6, 6, 6, 6, 6, 6, 6, 6, 6, 6, 6, 6, 6, 6, 6, 6, 6, 6, 6, 6, 6, 6, 6, 6, 6, 6, 6, 6, 6, 6, 6, 6, 7, 7, 7, 7, 7, 7, 7, 7, 7, 7, 7, 7, 7, 7, 7, 7, 7, 7, 7, 7, 7, 7, 7, 7, 7, 7, 7, 7, 7, 7, 7, 7, 7, 7, 7, 7, 7, 7, 7, 7, 7, 7, 7, 7, 7, 7, 7, 7, 7, 7, 7, 7, 7, 7, 7, 7, 7, 7, 7, 7, 7, 7, 7, 7, 8, 8, 8, 8, 8, 8, 8, 8, 8, 8, 8, 8, 8, 8, 8, 8, 8, 8, 8, 8, 8, 8, 8, 8, 8, 8, 8, 8, 8, 8, 8, 8, 8, 8, 8, 8, 8, 8, 8, 8, 8, 8, 8, 8, 8, 8, 8, 8, 8, 8, 8, 8, 8, 8, 8, 8, 8, 8, 8, 8, 8, 8, 8, 8, 8, 8, 8, 8, 8, 8, 8, 8, 8, 8, 8, 8, 8, 8, 8, 8, 8, 8, 8, 8, 8, 8, 8, 8, 8, 8, 8, 8, 8, 8, 8, 8, 8, 8, 8, 8, 8, 8, 8, 8, 8, 8, 8, 8, 8, 8, 8, 8, 8, 8, 8, 8, 8, 8, 8, 8, 8, 8, 8, 8, 8, 8, 8, 8].toArray⟩ : ByteArray).data.toList.getD (IntKind.u8.wrap (Int.fdiv (Int.fdiv a0 (2 ^ 32)) (2 ^ 8))).toNat 0).toNat : Nat) : Int)))))))
        (.guard ((0 : Int) ≤ (IntKind.u8.wrap (Int.fdiv a0 (2 ^ 32))) ∧ (IntKind.u8.wrap (Int.fdiv a0 (2 ^ 32))) < (((⟨[0, 1, 2, 2, 3, 3, 3, 3, 4, 4, 4, 4, 4, 4, 4, 4, 5, 5, 5, 5, 5, 5, 5, 5, 5, 5, 5, 5, 5, 5, 5, 5, 6, 6, 6, 6, 6, 6, 6, 6, 6, 6, 6, 6, 6, 6, 6, 6, 6, 6, 6, 6, 6, 6, 6, 6, 6, 6, 6, 6, 6, 6, 6, 6, 7, 7, 7, 7, 7, 7, 7, 7, 7, 7, 7, 7, 7, 7, 7, 7, 7, 7, 7, 7, 7, 7, 7, 7, 7, 7, 7, 7, 7, 7, 7, 7, 7, 7, 7, 7, 7, 7, 7, 7, 7, 7, 7, 7, 7, 7, 7, 7, 7, 7, 7, 7, 7, 7, 7, 7, 7, 7, 7, 7, 7, 7, 7, 7, 8, 8, 8, 8, 8, 8, 8, 8, 8, 8, 8, 8, 8, 8, 8, 8, 8, 8, 8, 8, 8, 8, 8, 8, 8, 8, 8, 8, 8, 8, 8, 8, 8, 8, 8, 8, 8, 8, 8, 8, 8, 8, 8, 8, 8, 8, 8, 8, 8, 8, 8, 8, 8, 8, 8, 8, 8, 8, 8, 8, 8, 8, 8, 8, 8, 8, 8, 8, 8, 8, 8, 8, 8, 8, 8, 8, 8, 8, 8, 8, 8, 8, 8, 8, 8, 8, 8, 8, 8, 8, 8, 8, 8, 8, 8, 8, 8, 8, 8, 8, 8, 8, 8, 8, 8, 8, 8, 8, 8, 8, 8, 8, 8, 8, 8, 8, 8, 8, 8, 8, 8, 8, 8, 8, 8, 8, 8, 8].toArray⟩ : ByteArray).size : Nat) : Int))
        (.leaf (IntKind.i64.wrap (32 + (IntKind.i64.wrap ((((⟨[0, 1, 2, 2, 3, 3, 3, 3, 4, 4, 4, 4, 4, 4, 4, 4, 5, 5, 5, 5, 5, 5, 5, 5, 5, 5, 5, 5, 5, 5, 5, 5, 6, 6, 6, 6, 6, 6, 6, 6, 6, 6, 6, 6, 6, 6, 6, 6, 6, 6, 6, 6, 6, 6, 6, 6, 6, 6, 6, 6, 6, 6, 6, 6, 7, 7, 7, 7, 7, 7, 7, 7, 7, 7, 7, 7, 7, 7, 7, 7, 7, 7, 7, 7, 7, 7, 7, 7, 7, 7, 7, 7, 7, 7, 7, 7, 7, 7, 7, 7, 7, 7, 7, 7, 7, 7, 7, 7, 7, 7, 7, 7, 7, 7, 7, 7, 7, 7, 7, 7, 7, 7, 7, 7, 7, 7, 7, 7, 8, 8, 8, 8, 8, 8, 8, 8, 8, 8, 8, 8, 8, 8, 8, 8, 8, 8, 8, 8, 8, 8, 8, 8, 8, 8, 8, 8, 8, 8, 8, 8, 8, 8, 8, 8, 8, 8, 8, 8, 8, 8, 8, 8, 8, 8, 8, 8, 8, 8, 8, 8, 8, 8, 8, 8, 8, 8, 8, 8, 8, 8, 8, 8, 8, 8, 8, 8, 8, 8, 8, 8, 8, 8, 8, 8, 8, 8, 8, 8, 8, 8, 8, 8, 8, 8, 8, 8, 8, 8, 8, 8, 8, 8, 8, 8, 8, 8, 8, 8, 8, 8, 8, 8, 8, 8, 8, 8, 8, 8, 8, 8, 8, 8, 8, 8, 8, 8, 8, 8, 8, 8, 8, 8, 8, 8, 8, 8].toArray⟩ : ByteArray).data.toList.getD (IntKind.u8.wrap (Int.fdiv a0 (2 ^ 32))).toNat 0).toNat : Nat) : Int)))))))))
    (.ite (decide (a0 ≥ 65536))
      (.guard ((0 : Int) ≤ 16)
      (.ite (decide ((Int.fdiv a0 (2 ^ 16)) ≥ 256))
        (.guard ((0 : Int) ≤ 8)
        (.guard ((0 : Int) ≤ (IntKind.u8.wrap (Int.fdiv (Int.fdiv a0 (2 ^ 16)) (2 ^ 8))) ∧ (IntKind.u8.wrap (Int.fdiv (Int.fdiv a0 (2 ^ 16)) (2 ^ 8))) < (((⟨[0, 1, 2, 2, 3, 3, 3, 3, 4, 4, 4, 4, 4, 4, 4, 4, 5, 5, 5, 5, 5, 5, 5, 5, 5, 5, 5, 5, 5, 5, 5, 5, 6, 6, 6, 6, 6, 6, 6, 6, 6, 6, 6, 6, 6, 6, 6, 6, 6, 6, 6, 6, 6, 6, 6, 6, 6, 6, 6, 6, 6, 6, 6, 6, 7, 7, 7, 7, 7, 7, 7, 7, 7, 7, 7, 7, 7, 7, 7, 7, 7, 7, 7, 7, 7, 7, 7, 7, 7, 7, 7, 7, 7, 7, 7, 7, 7, 7, 7, 7, 7, 7, 7, 7, 7, 7, 7, 7, 7, 7, 7, 7, 7, 7, 7, 7, 7, 7, 7, 7, 7, 7, 7, 7, 7, 7, 7, 7, 8, 8, 8, 8, 8, 8, 8, 8, 8, 8, 8, 8, 8, 8, 8, 8, 8, 8, 8, 8, 8, 8, 8, 8, 8, 8, 8, 8, 8, 8, 8, 8, 8, 8, 8, 8, 8, 8, 8, 8, 8, 8, 8, 8, 8, 8, 8, 8, 8, 8, 8, 8, 8, 8, 8, 8, 8, 8, 8, 8, 8, 8, 8, 8, 8, 8, 8, 8, 8, 8, 8, 8, 8, 8, 8, 8, 8, 8, 8, 8, 8, 8, 8, 8, 8, 8, 8, 8, 8, 8, 8, 8, 8, 8, 8, 8, 8, 8, 8, 8, 8, 8, 8, 8, 8, 8, 8, 8, 8, 8, 8, 8, 8, 8, 8, 8, 8, 8, 8, 8, 8, 8, 8, 8, 8, 8, 8, 8].toArray⟩ : ByteArray).size : Nat) : Int))
        (.leaf (IntKind.i64.wrap (24 + (IntKind.i64.wrap ((((⟨[0, 1, 2, 2, 3, 3, 3, 3, 4, 4, 4, 4, 4, 4, 4, 4, 5, 5, 5, 5, 5, 5, 5, 5, 5, 5, 5, 5, 5, 5, 5, 5, 6, 6, 6, 6, 6, 6, 6, 6, 6, 6, 6, 6, 6, 6, 6, 6, 6, 6, 6, 6, 6, 6, 6, 6, 6, 6, 6, 6, 6, 6, 6, 6, 7, 7, 7, 7, 7, 7, 7, 7, 7, 7, 7, 7, 7, 7, 7, 7, 7, 7, 7, 7, 7, 7, 7, 7, 7, 7, 7, 7, 7, 7, 7, 7, 7, 7, 7, 7, 7, 7, 7, 7, 7, 7, 7, 7, 7, 7, 7, 7, 7, 7, 7, 7, 7, 7, 7, 7, 7, 7, 7, 7, 7, 7, 7, 7, 8, 8, 8, 8, 8, 8, 8, 8, 8, 8, 8, 8, 8, 8, 8, 8, 8, 8, 8, 8, 8, 8, 8, 8, 8, 8, 8, 8, 8, 8, 8, 8, 8, 8, 8, 8, 8, 8, 8, 8, 8, 8, 8, 8, 8, 8, 8, 8, 8, 8, 8, 8, 8, 8, 8, 8, 8, 8, 8, 8, 8, 8, 8, 8, 8, 8, 8, 8, 8, 8, 8, 8, 8, 8, 8, 8, 8, 8, 8, 8, 8, 8, 8, 8, 8, 8, 8, 8, 8, 8, 8, 8, 8, 8, 8, 8, 8, 8, 8, 8, 8, 8, 8, 8, 8, 8, 8, 8, 8, 8, 8, 8, 8, 8, 8, 8, 8, 8, 8, 8, 8, 8, 8, 8, 8, 8, 8, 8].toArray⟩ : ByteArray).data.toList.getD (IntKind.u8.wrap (Int.fdiv (Int.fdiv a0 (2 ^ 16)) (2 ^ 8))).toNat 0).toNat : Nat) : Int)))))))
        (.guard ((0 : Int) ≤ (IntKind.u8.wrap (Int.fdiv a0 (2 ^ 16))) ∧ (IntKind.u8.wrap (Int.fdiv a0 (2 ^ 16))) < (((⟨[0, 1, 2, 2, 3, 3, 3, 3, 4, 4, 4, 4, 4, 4, 4, 4, 5, 5, 5, 5, 5, 5, 5, 5, 5, 5, 5, 5, 5, 5, 5, 5, 6, 6, 6, 6, 6, 6, 6, 6, 6, 6, 6, 6, 6, 6, 6, 6, 6, 6, 6, 6, 6, 6, 6, 6, 6, 6, 6, 6, 6, 6, 6, 6, 7, 7, 7, 7, 7, 7, 7, 7, 7, 7, 7, 7, 7, 7, 7, 7, 7, 7, 7, 7, 7, 7, 7, 7, 7, 7, 7, 7, 7, 7, 7, 7, 7, 7, 7, 7, 7, 7, 7, 7, 7, 7, 7, 7, 7, 7, 7, 7, 7, 7, 7, 7, 7, 7, 7, 7, 7, 7, 7, 7, 7, 7, 7, 7, 8, 8, 8, 8, 8, 8, 8, 8, 8, 8, 8, 8, 8, 8, 8, 8, 8, 8, 8, 8, 8, 8, 8, 8, 8, 8, 8, 8, 8, 8, 8, 8, 8, 8, 8, 8, 8, 8, 8, 8, 8, 8, 8, 8, 8, 8, 8, 8, 8, 8, 8, 8, 8, 8, 8, 8, 8, 8, 8, 8, 8, 8, 8, 8, 8, 8, 8, 8, 8, 8, 8, 8, 8, 8, 8, 8, 8, 8, 8, 8, 8, 8, 8, 8, 8, 8, 8, 8, 8, 8, 8, 8, 8, 8, 8, 8, 8, 8, 8, 8, 8, 8, 8, 8, 8, 8, 8, 8, 8, 8, 8, 8, 8, 8, 8, 8, 8, 8, 8, 8, 8, 8, 8, 8, 8, 8, 8, 8].toArray⟩ : ByteArray).size : Nat) : Int))
        (.leaf (IntKind.i64.wrap (16 + (IntKind.i64.wrap ((((⟨[0, 1, 2, 2, 3, 3, 3, 3, 4, 4, 4, 4, 4, 4, 4, 4, 5, 5, 5, 5, 5, 5, 5, 5, 5, 5, 5, 5, 5, 5, 5, 5, 6, 6, 6, 6, 6, 6, 6, 6, 6, 6, 6, 6, 6, 6, 6, 6, 6, 6, 6, 6, 6, 6, 6, 6, 6, 6, 6, 6, 6, 6, 6, 6, 7, 7, 7, 7, 7, 7, 7, 7, 7, 7, 7, 7, 7, 7, 7, 7, 7, 7, 7, 7, 7, 7, 7, 7, 7, 7, 7, 7, 7, 7, 7, 7, 7, 7, 7, 7, 7, 7, 7, 7, 7, 7, 7, 7, 7, 7, 7, 7, 7, 7, 7, 7, 7, 7, 7, 7, 7, 7, 7, 7, 7, 7, 7, 7, 8, 8, 8, 8, 8, 8, 8, 8, 8, 8, 8, 8, 8, 8, 8, 8, 8, 8, 8, 8, 8, 8, 8, 8, 8, 8, 8, 8, 8, 8, 8, 8, 8, 8, 8, 8, 8, 8, 8, 8, 8, 8, 8, 8, 8, 8, 8, 8, 8, 8, 8, 8, 8, 8, 8, 8, 8, 8, 8, 8, 8, 8, 8, 8, 8, 8, 8, 8, 8, 8, 8, 8, 8, 8, 8, 8, 8, 8, 8, 8, 8, 8, 8, 8, 8, 8, 8, 8, 8, 8, 8, 8, 8, 8, 8, 8, 8, 8, 8, 8, 8, 8, 8, 8, 8, 8, 8, 8, 8, 8, 8, 8, 8, 8, 8, 8, 8, 8, 8, 8, 8, 8, 8, 8, 8, 8, 8, 8].toArray⟩ : ByteArray).data.toList.getD (IntKind.u8.wrap (Int.fdiv a0 (2 ^ 16))).toNat 0).toNat : Nat) : Int))))))))
      (.ite (decide (a0 ≥ 256))
        (.guard ((0 : Int) ≤ 8)
        (.guard ((0 : Int) ≤ (IntKind.u8.wrap (Int.fdiv a0 (2 ^ 8))) ∧ (IntKind.u8.wrap (Int.fdiv a0 (2 ^ 8))) < (((⟨[0, 1, 2, 2, 3, 3, 3, 3, 4, 4, 4, 4, 4, 4, 4, 4, 5, 5, 5, 5, 5, 5, 5, 5, 5, 5, 5, 5, 5, 5, 5, 5, 6, 6, 6, 6, 6, 6, 6, 6, 6, 6, 6, 6, 6, 6, 6, 6, 6, 6, 6, 6, 6, 6, 6, 6, 6, 6, 6, 6, 6, 6, 6, 6, 7, 7, 7, 7, 7, 7, 7, 7, 7, 7, 7, 7, 7, 7, 7, 7, 7, 7, 7, 7, 7, 7, 7, 7, 7, 7, 7, 7, 7, 7, 7, 7, 7, 7, 7, 7, 7, 7, 7, 7, 7, 7, 7, 7, 7, 7, 7, 7, 7, 7, 7, 7, 7, 7, 7, 7, 7, 7, 7, 7, 7, 7, 7, 7, 8, 8, 8, 8, 8, 8, 8, 8, 8, 8, 8, 8, 8, 8, 8, 8, 8, 8, 8, 8, 8, 8, 8, 8, 8, 8, 8, 8, 8, 8, 8, 8, 8, 8, 8, 8, 8, 8, 8, 8, 8, 8, 8, 8, 8, 8, 8, 8, 8, 8, 8, 8, 8, 8, 8, 8, 8, 8, 8, 8, 8, 8, 8, 8, 8, 8, 8, 8, 8, 8, 8, 8, 8, 8, 8, 8, 8, 8, 8, 8, 8, 8, 8, 8, 8, 8, 8, 8, 8, 8, 8, 8, 8, 8, 8, 8, 8, 8, 8, 8, 8, 8, 8, 8, 8, 8, 8, 8, 8, 8, 8, 8, 8, 8, 8, 8, 8, 8, 8, 8, 8, 8, 8, 8, 8, 8, 8, 8].toArray⟩ : ByteArray).size : Nat) : Int))
        (.leaf (IntKind.i64.wrap (8 + (IntKind.i64.wrap ((((⟨[0, 1, 2, 2, 3, 3, 3, 3, 4, 4, 4, 4, 4, 4, 4, 4, 5, 5, 5, 5, 5, 5, 5, 5, 5, 5, 5, 5, 5, 5, 5, 5, 6, 6, 6, 6, 6, 6, 6, 6, 6, 6, 6, 6, 6, 6, 6, 6, 6, 6, 6, 6, 6, 6, 6, 6, 6, 6, 6, 6, 6, 6, 6, 6, 7, 7, 7, 7, 7, 7, 7, 7, 7, 7, 7, 7, 7, 7, 7, 7, 7, 7, 7, 7, 7, 7, 7, 7, 7, 7, 7, 7, 7, 7, 7, 7, 7, 7, 7, 7, 7, 7, 7, 7, 7, 7, 7, 7, 7, 7, 7, 7, 7, 7, 7, 7, 7, 7, 7, 7, 7, 7, 7, 7, 7, 7, 7, 7, 8, 8, 8, 8, 8, 8, 8, 8, 8, 8, 8, 8, 8, 8, 8, 8, 8, 8, 8, 8, 8, 8, 8, 8, 8, 8, 8, 8, 8, 8, 8, 8, 8, 8, 8, 8, 8, 8, 8, 8, 8, 8, 8, 8, 8, 8, 8, 8, 8, 8, 8, 8, 8, 8, 8, 8, 8, 8, 8, 8, 8, 8, 8, 8, 8, 8, 8, 8, 8, 8, 8, 8, 8, 8, 8, 8, 8, 8, 8, 8, 8, 8, 8, 8, 8, 8, 8, 8, 8, 8, 8, 8, 8, 8, 8, 8, 8, 8, 8, 8, 8, 8, 8, 8, 8, 8, 8, 8, 8, 8, 8, 8, 8, 8, 8, 8, 8, 8, 8, 8, 8, 8, 8, 8, 8, 8, 8, 8].toArray⟩ : ByteArray).data.toList.getD (IntKind.u8.wrap (Int.fdiv a0 (2 ^ 8))).toNat 0).toNat : Nat) : Int)))))))
        (.guard ((0 : Int) ≤ (IntKind.u8.wrap a0) ∧ (IntKind.u8.wrap a0) < (((⟨[0, 1, 2, 2, 3, 3, 3, 3, 4, 4, 4, 4, 4, 4, 4, 4, 5, 5, 5, 5, 5, 5, 5, 5, 5, 5, 5, 5, 5, 5, 5, 5, 6, 6, 6, 6, 6, 6, 6, 6, 6, 6, 6, 6, 6, 6, 6, 6, 6, 6, 6, 6, 6, 6, 6, 6, 6, 6, 6, 6, 6, 6, 6, 6, 7, 7, 7, 7, 7, 7, 7, 7, 7, 7, 7, 7, 7, 7, 7, 7, 7, 7, 7, 7, 7, 7, 7, 7, 7, 7, 7, 7, 7, 7, 7, 7, 7, 7, 7, 7, 7, 7, 7, 7, 7, 7, 7, 7, 7, 7, 7, 7, 7, 7, 7, 7, 7, 7, 7, 7, 7, 7, 7, 7, 7, 7, 7, 7, 8, 8, 8, 8, 8, 8, 8, 8, 8, 8, 8, 8, 8, 8, 8, 8, 8, 8, 8, 8, 8, 8, 8, 8, 8, 8, 8, 8, 8, 8, 8, 8, 8, 8, 8, 8, 8, 8, 8, 8, 8, 8, 8, 8, 8, 8, 8, 8, 8, 8, 8, 8, 8, 8, 8, 8, 8, 8, 8, 8, 8, 8, 8, 8, 8, 8, 8, 8, 8, 8, 8, 8, 8, 8, 8, 8, 8, 8, 8, 8, 8, 8, 8, 8, 8, 8, 8, 8, 8, 8, 8, 8, 8, 8, 8, 8, 8, 8, 8, 8, 8, 8, 8, 8, 8, 8, 8, 8, 8, 8, 8, 8, 8, 8, 8, 8, 8, 8, 8, 8, 8, 8, 8, 8, 8, 8, 8, 8].toArray⟩ : ByteArray).size : Nat) : Int))
        (.leaf (IntKind.i64.wrap (0 + (IntKind.i64.wrap ((((⟨[0, 1, 2, 2, 3, 3, 3, 3, 4, 4, 4, 4, 4, 4, 4, 4, 5, 5, 5, 5, 5, 5, 5, 5, 5, 5, 5, 5, 5, 5, 5, 5, 6, 6, 6, 6, 6, 6, 6, 6, 6, 6, 6, 6, 6, 6, 6, 6, 6, 6, 6, 6, 6, 6, 6, 6, 6, 6, 6, 6, 6, 6, 6, 6, 7, 7, 7, 7, 7, 7, 7, 7, 7, 7, 7, 7, 7, 7, 7, 7, 7, 7, 7, 7, 7, 7, 7, 7, 7, 7, 7, 7, 7, 7, 7, 7, 7, 7, 7, 7, 7, 7, 7, 7, 7, 7, 7, 7, 7, 7, 7, 7, 7, 7, 7, 7, 7, 7, 7, 7, 7, 7, 7, 7, 7, 7, 7, 7, 8, 8, 8, 8, 8, 8, 8, 8, 8, 8, 8, 8, 8, 8, 8, 8, 8, 8, 8, 8, 8, 8, 8, 8, 8, 8, 8, 8, 8, 8, 8, 8, 8, 8, 8, 8, 8, 8, 8, 8, 8, 8, 8, 8, 8, 8, 8, 8, 8, 8, 8, 8, 8, 8, 8, 8, 8, 8, 8, 8, 8, 8, 8, 8, 8, 8, 8, 8, 8, 8, 8, 8, 8, 8, 8, 8, 8, 8, 8, 8, 8, 8, 8, 8, 8, 8, 8, 8, 8, 8, 8, 8, 8, 8, 8, 8, 8, 8, 8, 8, 8, 8, 8, 8, 8, 8, 8, 8, 8, 8, 8, 8, 8, 8, 8, 8, 8, 8, 8, 8, 8, 8, 8, 8, 8, 8, 8, 8].toArray⟩ : ByteArray).data.toList.getD (IntKind.u8.wrap a0).toNat 0).toNat : Nat) : Int)))))))))
noncomputable def sh_math_bits_Len64 (a0 : Int) : Option (Int) := (T_math_bits_Len64 a0).run
noncomputable def qa_math_bits_Len64 : LQ (Int) := (Par.q (kP .u64))
noncomputable def qr_math_bits_Len64 : LQ (Int) := (Par.q intP)
noncomputable def F_math_bits_Len64 : SpecT := specF 0 qa_math_bits_Len64 1 [] (fun s => T_math_bits_Len64 s) default qr_math_bits_Len64 1 []
theorem ok_math_bits_Len64 : SpecOk Try.prog 111 (F_math_bits_Len64).spec :=
  specF_ok (Y := Y_math_bits_Len64) (A := A_math_bits_Len64) hY_math_bits_Len64 Facts.mix Try.func111 (c := C_math_bits_Len64) (by kernel_rfl) (Lc := 0) trivial qa_math_bits_Len64 1 2 [] (fun s => T_math_bits_Len64 s) default qr_math_bits_Len64 1 [] [] (by decide) (by kernel_rfl) (by rfl) (by decide) (by decide) (by rfl)
    (by rintro a0; kernel_rfl)

noncomputable def C_math_bits_LeadingZeros64 : Code := Try.f97.body.getD .skip
noncomputable def live_math_bits_LeadingZeros64 : List (List Nat) := [[0], [2]]
noncomputable def Y_math_bits_LeadingZeros64 : EnvT := ⟨Try.prog, lookT [(111, F_math_bits_Len64)]⟩
theorem hY_math_bits_LeadingZeros64 : (Y_math_bits_LeadingZeros64).Ok := lookT_ok ⟨ok_math_bits_Len64, trivial⟩
noncomputable def A_math_bits_LeadingZeros64 : Ann := ⟨[], [], [], live_math_bits_LeadingZeros64, []⟩
noncomputable def T_math_bits_LeadingZeros64 (a0 : Int) : Tr (Int) :=
  (.bind (sh_math_bits_Len64 a0) fun v1 =>
  (.leaf (IntKind.i64.wrap (64 - v1))))
noncomputable def sh_math_bits_LeadingZeros64 (a0 : Int) : Option (Int) := (T_math_bits_LeadingZeros64 a0).run
noncomputable def qa_math_bits_LeadingZeros64 : LQ (Int) := (Par.q (kP .u64))
noncomputable def qr_math_bits_LeadingZeros64 : LQ (Int) := (Par.q intP)
noncomputable def F_math_bits_LeadingZeros64 : SpecT := specF 0 qa_math_bits_LeadingZeros64 1 [] (fun s => T_math_bits_LeadingZeros64 s) default qr_math_bits_LeadingZeros64 1 []
theorem ok_math_bits_LeadingZeros64 : SpecOk Try.prog 97 (F_math_bits_LeadingZeros64).spec :=
  specF_ok (Y := Y_math_bits_LeadingZeros64) (A := A_math_bits_LeadingZeros64) hY_math_bits_LeadingZeros64 Facts.mix Try.func97 (c := C_math_bits_LeadingZeros64) (by kernel_rfl) (Lc := 0) trivial qa_math_bits_LeadingZeros64 1 2 [] (fun s => T_math_bits_LeadingZeros64 s) default qr_math_bits_LeadingZeros64 1 [] [] (by decide) (by kernel_rfl) (by rfl) (by decide) (by decide) (by rfl)
    (by rintro a0; kernel_rfl)

noncomputable def C_math_bits_Div64 : Code := Try.f81.body.getD .skip
noncomputable def live_math_bits_Div64 : List (List Nat) := [[0, 1, 2], [0, 1, 2, 20], [0, 1, 2], [0, 1, 2, 24], [0, 1, 2], [0, 1, 2, 27], [6, 7], [0, 1, 2, 8], [0, 1, 2, 8], [0, 1, 2, 8, 9], [0, 1, 2, 8, 9, 10], [1, 2, 8, 9, 10, 11], [2, 8, 9, 10, 11, 12], [2, 8, 9, 10, 11, 12, 13], [2, 8, 9, 10, 11, 13, 14], [2, 8, 9, 10, 11, 13, 14, 15], [2, 8, 9, 10, 11, 13, 14, 15, 16], [2, 8, 9, 10, 11, 13, 14, 15, 16, 78], [2, 8, 9, 10, 11, 13, 14, 15, 16], [2, 8, 9, 10, 11, 13, 14, 15, 16], [2, 8, 9, 10, 11, 13, 14, 15, 16, 85], [2, 8, 9, 10, 14, 15, 17], [2, 8, 9, 10, 14, 15, 17, 18], [2, 8, 9, 10, 14, 15, 16, 17, 18], [2, 8, 9, 10, 14, 15, 16, 17, 18, 113], [2, 8, 9, 10, 14, 15, 16, 17, 18], [2, 8, 9, 10, 14, 15, 16, 17, 18], [2, 8, 9, 10, 14, 15, 16, 17, 18, 120], [6, 7]]
noncomputable def Y_math_bits_Div64 : EnvT := ⟨Try.prog, lookT [(97, F_math_bits_LeadingZeros64)]⟩
theorem hY_math_bits_Div64 : (Y_math_bits_Div64).Ok := lookT_ok ⟨ok_math_bits_LeadingZeros64, trivial⟩
noncomputable def T_math_bits_Div64_l1 (x0 : Int) (x1 : Int) (x2 : Int) (x3 : Int) (x4 : Int) (x5 : Int) (x6 : Int) (x7 : Int) (x8 : Int) : Tr ((Int × Int × Int × Int × Int × Int × Int × Int × Int) ⊕ (Int × Int × Int × Int × Int × Int × Int × Int)) :=
  (.ite ((decide (x7 ≥ 4294967296)) || (decide ((IntKind.u64.wrap (x7 * x3)) > (IntKind.u64.wrap ((IntKind.u64.wrap (4294967296 * x8)) + x5)))))
    (.ite (decide ((IntKind.u64.wrap (x8 + x2)) ≥ 4294967296))
      (.leaf (.inr (x0, x1, x2, x3, x4, x5, x6, IntKind.u64.wrap (x7 - 1))))
      (.leaf (.inl (x0, x1, x2, x3, x4, x5, x6, IntKind.u64.wrap (x7 - 1), IntKind.u64.wrap (x8 + x2)))))
    (.leaf (.inr (x0, x1, x2, x3, x4, x5, x6, x7))))
noncomputable def sh_math_bits_Div64_l1 (x0 : Int) (x1 : Int) (x2 : Int) (x3 : Int) (x4 : Int) (x5 : Int) (x6 : Int) (x7 : Int) (x8 : Int) : Option (Int × Int × Int × Int × Int × Int × Int × Int) := iter (fun s : Int × Int × Int × Int × Int × Int × Int × Int × Int => (T_math_bits_Div64_l1 s.1 s.2.1 s.2.2.1 s.2.2.2.1 s.2.2.2.2.1 s.2.2.2.2.2.1 s.2.2.2.2.2.2.1 s.2.2.2.2.2.2.2.1 s.2.2.2.2.2.2.2.2).run) (x0, x1, x2, x3, x4, x5, x6, x7, x8)
noncomputable def A_math_bits_Div64_l1 : Ann := ⟨[], [], [], live_math_bits_Div64, []⟩
noncomputable def q_math_bits_Div64_l1 : LQ (Int × Int × Int × Int × Int × Int × Int × Int × Int) := (LQ.seq (Par.q (kP .u64)) (LQ.seq (Par.q (kP .u64)) (LQ.seq (Par.q (kP .u64)) (LQ.seq (Par.q (kP .u64)) (LQ.seq (Par.q (kP .u64)) (LQ.seq (Par.q (kP .u64)) (LQ.seq (Par.q (kP .u64)) (LQ.seq (Par.q (kP .u64)) (Par.q (kP .u64))))))))))
noncomputable def p_math_bits_Div64_l1 : Pat := ⟨[2, 8, 9, 10, 11, 13, 14, 15, 16], []⟩
noncomputable def s_math_bits_Div64_l1 : List BS := []
noncomputable def q_math_bits_Div64_l1_e0 : LQ (Int × Int × Int × Int × Int × Int × Int × Int) := (LQ.seq (Par.q (kP .u64)) (LQ.seq (Par.q (kP .u64)) (LQ.seq (Par.q (kP .u64)) (LQ.seq (Par.q (kP .u64)) (LQ.seq (Par.q (kP .u64)) (LQ.seq (Par.q (kP .u64)) (LQ.seq (Par.q (kP .u64)) (Par.q (kP .u64)))))))))
noncomputable def p_math_bits_Div64_l1_e0 : Pat := ⟨[2, 8, 9, 10, 11, 13, 14, 15], []⟩
noncomputable def s_math_bits_Div64_l1_e0 : List BS := []
noncomputable def L_math_bits_Div64_l1 : St → Option LR := pieceL q_math_bits_Div64_l1 135 0 p_math_bits_Div64_l1 s_math_bits_Div64_l1 (fun o => LR.one o (fun r => (.exit 0, stP q_math_bits_Div64_l1_e0 135 2 p_math_bits_Div64_l1_e0 s_math_bits_Div64_l1_e0 r))) (fun a => iter (fun s : Int × Int × Int × Int × Int × Int × Int × Int × Int => (T_math_bits_Div64_l1 s.1 s.2.1 s.2.2.1 s.2.2.2.1 s.2.2.2.2.1 s.2.2.2.2.2.1 s.2.2.2.2.2.2.1 s.2.2.2.2.2.2.2.1 s.2.2.2.2.2.2.2.2).run) a)
noncomputable def E_math_bits_Div64_l1 : Exit → Option (End ((Int × Int × Int × Int × Int × Int × Int × Int × Int) ⊕ (Int × Int × Int × Int × Int × Int × Int × Int)))
  | .normal => some ⟨_, q_math_bits_Div64_l1, p_math_bits_Div64_l1, s_math_bits_Div64_l1, fun b => .inl b⟩
  | .exit 0 => some ⟨_, q_math_bits_Div64_l1_e0, p_math_bits_Div64_l1_e0, s_math_bits_Div64_l1_e0, fun b => .inr b⟩
  | _ => none
noncomputable def O_math_bits_Div64_l1 : ((Int × Int × Int × Int × Int × Int × Int × Int × Int) ⊕ (Int × Int × Int × Int × Int × Int × Int × Int)) → Exit × St
  | .inl b => (.normal, stP q_math_bits_Div64_l1 135 2 p_math_bits_Div64_l1 s_math_bits_Div64_l1 b)
  | .inr b => (.exit 0, stP q_math_bits_Div64_l1_e0 135 2 p_math_bits_Div64_l1_e0 s_math_bits_Div64_l1_e0 b)
theorem lok_math_bits_Div64_l1 : PieceOk (Y_math_bits_Div64).env 0 (sub C_math_bits_Div64 [0, 0, 1, 1, 1, 1, 1, 1, 1, 1, 1, 1, 1, 1, 1, 1]) L_math_bits_Div64_l1 :=
  loop_ok (Y := Y_math_bits_Div64) (A := A_math_bits_Div64_l1) hY_math_bits_Div64 Facts.mix (root := C_math_bits_Div64) (L := 0) trivial (π := [0, 0, 1, 1, 1, 1, 1, 1, 1, 1, 1, 1, 1, 1, 1, 1]) (c := loopB (sub C_math_bits_Div64 [0, 0, 1, 1, 1, 1, 1, 1, 1, 1, 1, 1, 1, 1, 1, 1])) (by kernel_rfl) q_math_bits_Div64_l1 135 2 p_math_bits_Div64_l1 s_math_bits_Div64_l1 E_math_bits_Div64_l1 (fun s => T_math_bits_Div64_l1 s.1 s.2.1 s.2.2.1 s.2.2.2.1 s.2.2.2.2.1 s.2.2.2.2.2.1 s.2.2.2.2.2.2.1 s.2.2.2.2.2.2.2.1 s.2.2.2.2.2.2.2.2) O_math_bits_Div64_l1 (by intro e d h b; unfold E_math_bits_Div64_l1 at h; split at h <;> first | (cases h; rfl) | cases h) (fun _ => rfl) (by intro r; exact (fun h => by cases h)) (fun o => LR.one o (fun r => (.exit 0, stP q_math_bits_Div64_l1_e0 135 2 p_math_bits_Div64_l1_e0 s_math_bits_Div64_l1_e0 r))) (by intro o Q h; obtain ⟨v, h1, h2⟩ := h; exact ⟨v, h1, h2⟩)
    (by rintro ⟨x0, x1, x2, x3, x4, x5, x6, x7, x8⟩; kernel_rfl)
noncomputable def T_math_bits_Div64_l2 (x0 : Int) (x1 : Int) (x2 : Int) (x3 : Int) (x4 : Int) (x5 : Int) (x6 : Int) (x7 : Int) (x8 : Int) : Tr ((Int × Int × Int × Int × Int × Int × Int × Int × Int) ⊕ (Int × Int × Int × Int × Int × Int)) :=
  (.ite ((decide (x8 ≥ 4294967296)) || (decide ((IntKind.u64.wrap (x8 * x3)) > (IntKind.u64.wrap ((IntKind.u64.wrap (4294967296 * x6)) + x4)))))
    (.ite (decide ((IntKind.u64.wrap (x6 + x2)) ≥ 4294967296))
      (.leaf (.inr (x0, x1, x4, x5, x7, IntKind.u64.wrap (x8 - 1))))
      (.leaf (.inl (x0, x1, x2, x3, x4, x5, IntKind.u64.wrap (x6 + x2), x7, IntKind.u64.wrap (x8 - 1)))))
    (.leaf (.inr (x0, x1, x4, x5, x7, x8))))
noncomputable def sh_math_bits_Div64_l2 (x0 : Int) (x1 : Int) (x2 : Int) (x3 : Int) (x4 : Int) (x5 : Int) (x6 : Int) (x7 : Int) (x8 : Int) : Option (Int × Int × Int × Int × Int × Int) := iter (fun s : Int × Int × Int × Int × Int × Int × Int × Int × Int => (T_math_bits_Div64_l2 s.1 s.2.1 s.2.2.1 s.2.2.2.1 s.2.2.2.2.1 s.2.2.2.2.2.1 s.2.2.2.2.2.2.1 s.2.2.2.2.2.2.2.1 s.2.2.2.2.2.2.2.2).run) (x0, x1, x2, x3, x4, x5, x6, x7, x8)
noncomputable def A_math_bits_Div64_l2 : Ann := ⟨[], [], [], live_math_bits_Div64, []⟩
noncomputable def q_math_bits_Div64_l2 : LQ (Int × Int × Int × Int × Int × Int × Int × Int × Int) := (LQ.seq (Par.q (kP .u64)) (LQ.seq (Par.q (kP .u64)) (LQ.seq (Par.q (kP .u64)) (LQ.seq (Par.q (kP .u64)) (LQ.seq (Par.q (kP .u64)) (LQ.seq (Par.q (kP .u64)) (LQ.seq (Par.q (kP .u64)) (LQ.seq (Par.q (kP .u64)) (Par.q (kP .u64))))))))))
noncomputable def p_math_bits_Div64_l2 : Pat := ⟨[2, 8, 9, 10, 14, 15, 16, 17, 18], []⟩
noncomputable def s_math_bits_Div64_l2 : List BS := []
noncomputable def q_math_bits_Div64_l2_e0 : LQ (Int × Int × Int × Int × Int × Int) := (LQ.seq (Par.q (kP .u64)) (LQ.seq (Par.q (kP .u64)) (LQ.seq (Par.q (kP .u64)) (LQ.seq (Par.q (kP .u64)) (LQ.seq (Par.q (kP .u64)) (Par.q (kP .u64)))))))
noncomputable def p_math_bits_Div64_l2_e0 : Pat := ⟨[2, 8, 14, 15, 17, 18], []⟩
noncomputable def s_math_bits_Div64_l2_e0 : List BS := []
noncomputable def L_math_bits_Div64_l2 : St → Option LR := pieceL q_math_bits_Div64_l2 135 0 p_math_bits_Div64_l2 s_math_bits_Div64_l2 (fun o => LR.one o (fun r => (.exit 2, stP q_math_bits_Div64_l2_e0 135 2 p_math_bits_Div64_l2_e0 s_math_bits_Div64_l2_e0 r))) (fun a => iter (fun s : Int × Int × Int × Int × Int × Int × Int × Int × Int => (T_math_bits_Div64_l2 s.1 s.2.1 s.2.2.1 s.2.2.2.1 s.2.2.2.2.1 s.2.2.2.2.2.1 s.2.2.2.2.2.2.1 s.2.2.2.2.2.2.2.1 s.2.2.2.2.2.2.2.2).run) a)
noncomputable def E_math_bits_Div64_l2 : Exit → Option (End ((Int × Int × Int × Int × Int × Int × Int × Int × Int) ⊕ (Int × Int × Int × Int × Int × Int)))
  | .normal => some ⟨_, q_math_bits_Div64_l2, p_math_bits_Div64_l2, s_math_bits_Div64_l2, fun b => .inl b⟩
  | .exit 2 => some ⟨_, q_math_bits_Div64_l2_e0, p_math_bits_Div64_l2_e0, s_math_bits_Div64_l2_e0, fun b => .inr b⟩
  | _ => none
noncomputable def O_math_bits_Div64_l2 : ((Int × Int × Int × Int × Int × Int × Int × Int × Int) ⊕ (Int × Int × Int × Int × Int × Int)) → Exit × St
  | .inl b => (.normal, stP q_math_bits_Div64_l2 135 2 p_math_bits_Div64_l2 s_math_bits_Div64_l2 b)
  | .inr b => (.exit 2, stP q_math_bits_Div64_l2_e0 135 2 p_math_bits_Div64_l2_e0 s_math_bits_Div64_l2_e0 b)
theorem lok_math_bits_Div64_l2 : PieceOk (Y_math_bits_Div64).env 0 (sub C_math_bits_Div64 [0, 0, 1, 1, 1, 1, 1, 1, 1, 1, 1, 1, 1, 1, 1, 1, 1, 1, 1, 1]) L_math_bits_Div64_l2 :=
  loop_ok (Y := Y_math_bits_Div64) (A := A_math_bits_Div64_l2) hY_math_bits_Div64 Facts.mix (root := C_math_bits_Div64) (L := 0) trivial (π := [0, 0, 1, 1, 1, 1, 1, 1, 1, 1, 1, 1, 1, 1, 1, 1, 1, 1, 1, 1]) (c := loopB (sub C_math_bits_Div64 [0, 0, 1, 1, 1, 1, 1, 1, 1, 1, 1, 1, 1, 1, 1, 1, 1, 1, 1, 1])) (by kernel_rfl) q_math_bits_Div64_l2 135 2 p_math_bits_Div64_l2 s_math_bits_Div64_l2 E_math_bits_Div64_l2 (fun s => T_math_bits_Div64_l2 s.1 s.2.1 s.2.2.1 s.2.2.2.1 s.2.2.2.2.1 s.2.2.2.2.2.1 s.2.2.2.2.2.2.1 s.2.2.2.2.2.2.2.1 s.2.2.2.2.2.2.2.2) O_math_bits_Div64_l2 (by intro e d h b; unfold E_math_bits_Div64_l2 at h; split at h <;> first | (cases h; rfl) | cases h) (fun _ => rfl) (by intro r; exact (fun h => by cases h)) (fun o => LR.one o (fun r => (.exit 2, stP q_math_bits_Div64_l2_e0 135 2 p_math_bits_Div64_l2_e0 s_math_bits_Div64_l2_e0 r))) (by intro o Q h; obtain ⟨v, h1, h2⟩ := h; exact ⟨v, h1, h2⟩)
    (by rintro ⟨x0, x1, x2, x3, x4, x5, x6, x7, x8⟩; kernel_rfl)
noncomputable def A_math_bits_Div64 : Ann := ⟨[([0, 0, 1, 1, 1, 1, 1, 1, 1, 1, 1, 1, 1, 1, 1, 1], L_math_bits_Div64_l1), ([0, 0, 1, 1, 1, 1, 1, 1, 1, 1, 1, 1, 1, 1, 1, 1, 1, 1, 1, 1], L_math_bits_Div64_l2)], [], [], live_math_bits_Div64, []⟩
noncomputable def T_math_bits_Div64 (a0 : Int) (a1 : Int) (a2 : Int) : Tr (Int × Int) :=
  (.ite (a2 == 0)
    .fail
    (.ite (decide (a2 ≤ a0))
      .fail
      (.ite (a0 == 0)
        (.guard (a2 ≠ 0)
        (.guard (a2 ≠ 0)
        (.leaf (IntKind.u64.wrap (Int.tdiv a1 a2), Int.tmod a1 a2))))
        (.bind (sh_math_bits_LeadingZeros64 a2) fun v1 =>
        (.guard ((0 : Int) ≤ (IntKind.u64.wrap v1))
        (.guard ((0 : Int) ≤ 32)
        (.guard ((0 : Int) ≤ (IntKind.u64.wrap v1))
        (.guard ((0 : Int) ≤ (IntKind.u64.wrap (64 - (IntKind.u64.wrap v1))))
        (.guard ((0 : Int) ≤ (IntKind.u64.wrap v1))
        (.guard ((0 : Int) ≤ 32)
        (.guard ((Int.fdiv (IntKind.u64.wrap (a2 * 2 ^ (min (IntKind.u64.wrap v1).toNat 64))) (2 ^ 32)) ≠ 0)
        (.bind (sh_math_bits_Div64_l1 (IntKind.u64.wrap (a2 * 2 ^ (min (IntKind.u64.wrap v1).toNat 64))) (IntKind.u64.wrap v1) (Int.fdiv (IntKind.u64.wrap (a2 * 2 ^ (min (IntKind.u64.wrap v1).toNat 64))) (2 ^ 32)) (IntKind.u64.wrap (((BitVec.ofInt 64 (IntKind.u64.wrap (a2 * 2 ^ (min (IntKind.u64.wrap v1).toNat 64))) &&& BitVec.ofInt 64 4294967295).toNat : Nat) : Int)) (IntKind.u64.wrap (((BitVec.ofInt 64 (IntKind.u64.wrap (a0 * 2 ^ (min (IntKind.u64.wrap v1).toNat 64))) ||| BitVec.ofInt 64 (Int.fdiv a1 (2 ^ (min (IntKind.u64.wrap (64 - (IntKind.u64.wrap v1))).toNat 64)))).toNat : Nat) : Int)) (Int.fdiv (IntKind.u64.wrap (a1 * 2 ^ (min (IntKind.u64.wrap v1).toNat 64))) (2 ^ 32)) (IntKind.u64.wrap (((BitVec.ofInt 64 (IntKind.u64.wrap (a1 * 2 ^ (min (IntKind.u64.wrap v1).toNat 64))) &&& BitVec.ofInt 64 4294967295).toNat : Nat) : Int)) (IntKind.u64.wrap (Int.tdiv (IntKind.u64.wrap (((BitVec.ofInt 64 (IntKind.u64.wrap (a0 * 2 ^ (min (IntKind.u64.wrap v1).toNat 64))) ||| BitVec.ofInt 64 (Int.fdiv a1 (2 ^ (min (IntKind.u64.wrap (64 - (IntKind.u64.wrap v1))).toNat 64)))).toNat : Nat) : Int)) (Int.fdiv (IntKind.u64.wrap (a2 * 2 ^ (min (IntKind.u64.wrap v1).toNat 64))) (2 ^ 32)))) (IntKind.u64.wrap ((IntKind.u64.wrap (((BitVec.ofInt 64 (IntKind.u64.wrap (a0 * 2 ^ (min (IntKind.u64.wrap v1).toNat 64))) ||| BitVec.ofInt 64 (Int.fdiv a1 (2 ^ (min (IntKind.u64.wrap (64 - (IntKind.u64.wrap v1))).toNat 64)))).toNat : Nat) : Int)) - (IntKind.u64.wrap ((IntKind.u64.wrap (Int.tdiv (IntKind.u64.wrap (((BitVec.ofInt 64 (IntKind.u64.wrap (a0 * 2 ^ (min (IntKind.u64.wrap v1).toNat 64))) ||| BitVec.ofInt 64 (Int.fdiv a1 (2 ^ (min (IntKind.u64.wrap (64 - (IntKind.u64.wrap v1))).toNat 64)))).toNat : Nat) : Int)) (Int.fdiv (IntKind.u64.wrap (a2 * 2 ^ (min (IntKind.u64.wrap v1).toNat 64))) (2 ^ 32)))) * (Int.fdiv (IntKind.u64.wrap (a2 * 2 ^ (min (IntKind.u64.wrap v1).toNat 64))) (2 ^ 32))))))) fun v2 =>
        (.guard (v2.2.2.1 ≠ 0)
        (.bind (sh_math_bits_Div64_l2 v2.1 v2.2.1 v2.2.2.1 v2.2.2.2.1 v2.2.2.2.2.2.2.1 v2.2.2.2.2.2.2.2 (IntKind.u64.wrap ((IntKind.u64.wrap ((IntKind.u64.wrap ((IntKind.u64.wrap (v2.2.2.2.2.1 * 4294967296)) + v2.2.2.2.2.2.1)) - (IntKind.u64.wrap (v2.2.2.2.2.2.2.2 * v2.1)))) - (IntKind.u64.wrap ((IntKind.u64.wrap (Int.tdiv (IntKind.u64.wrap ((IntKind.u64.wrap ((IntKind.u64.wrap (v2.2.2.2.2.1 * 4294967296)) + v2.2.2.2.2.2.1)) - (IntKind.u64.wrap (v2.2.2.2.2.2.2.2 * v2.1)))) v2.2.2.1)) * v2.2.2.1)))) (IntKind.u64.wrap ((IntKind.u64.wrap ((IntKind.u64.wrap (v2.2.2.2.2.1 * 4294967296)) + v2.2.2.2.2.2.1)) - (IntKind.u64.wrap (v2.2.2.2.2.2.2.2 * v2.1)))) (IntKind.u64.wrap (Int.tdiv (IntKind.u64.wrap ((IntKind.u64.wrap ((IntKind.u64.wrap (v2.2.2.2.2.1 * 4294967296)) + v2.2.2.2.2.2.1)) - (IntKind.u64.wrap (v2.2.2.2.2.2.2.2 * v2.1)))) v2.2.2.1))) fun v3 =>
        (.guard ((0 : Int) ≤ v3.2.1)
        (.leaf (IntKind.u64.wrap ((IntKind.u64.wrap (v3.2.2.2.1 * 4294967296)) + v3.2.2.2.2.2), Int.fdiv (IntKind.u64.wrap ((IntKind.u64.wrap ((IntKind.u64.wrap (v3.2.2.2.2.1 * 4294967296)) + v3.2.2.1)) - (IntKind.u64.wrap (v3.2.2.2.2.2 * v3.1)))) (2 ^ (min v3.2.1.toNat 64)))))))))))))))))))
noncomputable def sh_math_bits_Div64 (a0 : Int) (a1 : Int) (a2 : Int) : Option (Int × Int) := (T_math_bits_Div64 a0 a1 a2).run
noncomputable def qa_math_bits_Div64 : LQ (Int × Int × Int) := (LQ.seq (Par.q (kP .u64)) (LQ.seq (Par.q (kP .u64)) (Par.q (kP .u64))))
noncomputable def qr_math_bits_Div64 : LQ (Int × Int) := (LQ.seq (Par.q (kP .u64)) (Par.q (kP .u64)))
noncomputable def F_math_bits_Div64 : SpecT := specF 0 qa_math_bits_Div64 3 [] (fun s => T_math_bits_Div64 s.1 s.2.1 s.2.2) default qr_math_bits_Div64 2 []
theorem ok_math_bits_Div64 : SpecOk Try.prog 81 (F_math_bits_Div64).spec :=
  specF_ok (Y := Y_math_bits_Div64) (A := A_math_bits_Div64) hY_math_bits_Div64 Facts.mix Try.func81 (c := C_math_bits_Div64) (by kernel_rfl) (Lc := 0) ⟨lok_math_bits_Div64_l1, lok_math_bits_Div64_l2, trivial⟩ qa_math_bits_Div64 3 2 [] (fun s => T_math_bits_Div64 s.1 s.2.1 s.2.2) default qr_math_bits_Div64 2 [] [] (by decide) (by kernel_rfl) (by rfl) (by decide) (by decide) (by rfl)
    (by rintro ⟨a0, a1, a2⟩; kernel_rfl)

noncomputable def C_ratio_MulDiv : Code := Try.f53.body.getD .skip
noncomputable def live_ratio_MulDiv : List (List Nat) := [[0, 1, 2], [0, 1, 2, 21], [6, 7], [2, 8, 9], [2, 8, 9, 33], [6, 7], [10], [10, 43], [6, 7], [6, 7]]
noncomputable def Y_ratio_MulDiv : EnvT := ⟨Try.prog, lookT [(80, F_math_bits_Mul64), (81, F_math_bits_Div64)]⟩
theorem hY_ratio_MulDiv : (Y_ratio_MulDiv).Ok := lookT_ok ⟨ok_math_bits_Mul64, ok_math_bits_Div64, trivial⟩
noncomputable def A_ratio_MulDiv : Ann := ⟨[], [], [], live_ratio_MulDiv, []⟩
noncomputable def T_ratio_MulDiv (a0 : Int) (a1 : Int) (a2 : Int) : Tr (Int × Int) :=
  (.ite (((decide (a0 < 0)) || (decide (a1 < 0))) || (decide (a2 < 1)))
    (.leaf (0, 2))
    (.bind (sh_math_bits_Mul64 (IntKind.u64.wrap a0) (IntKind.u64.wrap a1)) fun v1 =>
    (.ite (decide (v1.1 ≥ (IntKind.u64.wrap a2)))
      (.leaf (0, 2))
      (.bind (sh_math_bits_Div64 v1.1 v1.2 (IntKind.u64.wrap a2)) fun v2 =>
      (.ite (decide (v2.1 > 1125899906842624))
        (.leaf (0, 2))
        (.leaf (IntKind.i64.wrap v2.1, 0)))))))
noncomputable def sh_ratio_MulDiv (a0 : Int) (a1 : Int) (a2 : Int) : Option (Int × Int) := (T_ratio_MulDiv a0 a1 a2).run
noncomputable def qa_ratio_MulDiv : LQ (Int × Int × Int) := (LQ.seq (Par.q intP) (LQ.seq (Par.q intP) (Par.q intP)))
noncomputable def qr_ratio_MulDiv : LQ (Int × Int) := (LQ.seq (Par.q intP) (Par.q intP))
noncomputable def F_ratio_MulDiv : SpecT := specF 0 qa_ratio_MulDiv 3 [] (fun s => T_ratio_MulDiv s.1 s.2.1 s.2.2) default qr_ratio_MulDiv 2 []
theorem ok_ratio_MulDiv : SpecOk Try.prog 53 (F_ratio_MulDiv).spec :=
  specF_ok (Y := Y_ratio_MulDiv) (A := A_ratio_MulDiv) hY_ratio_MulDiv Facts.mix Try.func53 (c := C_ratio_MulDiv) (by kernel_rfl) (Lc := 0) trivial qa_ratio_MulDiv 3 2 [] (fun s => T_ratio_MulDiv s.1 s.2.1 s.2.2) default qr_ratio_MulDiv 2 [] [] (by decide) (by kernel_rfl) (by rfl) (by decide) (by decide) (by rfl)
    (by rintro ⟨a0, a1, a2⟩; kernel_rfl)

noncomputable def C_ratio_Part : Code := Try.f76.body.getD .skip
noncomputable def live_ratio_Part : List (List Nat) := [[0, 1], [0, 1, 16], [4, 5], [4, 5]]
noncomputable def Y_ratio_Part : EnvT := ⟨Try.prog, lookT [(59, F_ratio_In), (53, F_ratio_MulDiv)]⟩
theorem hY_ratio_Part : (Y_ratio_Part).Ok := lookT_ok ⟨ok_ratio_In, ok_ratio_MulDiv, trivial⟩
noncomputable def A_ratio_Part : Ann := ⟨[], [], [], live_ratio_Part, []⟩
noncomputable def T_ratio_Part (a0 : Int) (a1 : Int) : Tr (Int × Int) :=
  (.bind (sh_ratio_In a0) fun v1 =>
  (.ite (((!v1) || (decide (a1 < 0))) || (decide (a1 > 1000)))
    (.leaf (0, 2))
    (.bind (sh_ratio_MulDiv a0 a1 1000) fun v2 =>
    (.leaf (v2.1, v2.2)))))
noncomputable def sh_ratio_Part (a0 : Int) (a1 : Int) : Option (Int × Int) := (T_ratio_Part a0 a1).run
noncomputable def qa_ratio_Part : LQ (Int × Int) := (LQ.seq (Par.q intP) (Par.q intP))
noncomputable def qr_ratio_Part : LQ (Int × Int) := (LQ.seq (Par.q intP) (Par.q intP))
noncomputable def F_ratio_Part : SpecT := specF 0 qa_ratio_Part 2 [] (fun s => T_ratio_Part s.1 s.2) default qr_ratio_Part 2 []
theorem ok_ratio_Part : SpecOk Try.prog 76 (F_ratio_Part).spec :=
  specF_ok (Y := Y_ratio_Part) (A := A_ratio_Part) hY_ratio_Part Facts.mix Try.func76 (c := C_ratio_Part) (by kernel_rfl) (Lc := 0) trivial qa_ratio_Part 2 2 [] (fun s => T_ratio_Part s.1 s.2) default qr_ratio_Part 2 [] [] (by decide) (by kernel_rfl) (by rfl) (by decide) (by decide) (by rfl)
    (by rintro ⟨a0, a1⟩; kernel_rfl)

noncomputable def C_ref_In : Code := Try.f61.body.getD .skip
noncomputable def live_ref_In : List (List Nat) := [[0], [2]]
noncomputable def Y_ref_In : EnvT := ⟨Try.prog, lookT []⟩
theorem hY_ref_In : (Y_ref_In).Ok := lookT_ok trivial
noncomputable def A_ref_In : Ann := ⟨[], [], [], live_ref_In, []⟩
noncomputable def T_ref_In (a0 : Int) : Tr (Bool) :=
  (.leaf ((decide (a0 ≥ 0)) && (decide (a0 ≤ 1125899906842624))))
noncomputable def sh_ref_In (a0 : Int) : Option (Bool) := (T_ref_In a0).run
noncomputable def qa_ref_In : LQ (Int) := (Par.q intP)
noncomputable def qr_ref_In : LQ (Bool) := (Par.q boolP)
noncomputable def F_ref_In : SpecT := specF 0 qa_ref_In 1 [] (fun s => T_ref_In s) default qr_ref_In 1 []
theorem ok_ref_In : SpecOk Try.prog 61 (F_ref_In).spec :=
  specF_ok (Y := Y_ref_In) (A := A_ref_In) hY_ref_In Facts.mix Try.func61 (c := C_ref_In) (by kernel_rfl) (Lc := 0) trivial qa_ref_In 1 2 [] (fun s => T_ref_In s) default qr_ref_In 1 [] [] (by decide) (by kernel_rfl) (by rfl) (by decide) (by decide) (by rfl)
    (by rintro a0; kernel_rfl)

noncomputable def C_ref_MulDiv : Code := Try.f56.body.getD .skip
noncomputable def live_ref_MulDiv : List (List Nat) := [[0, 1, 2], [0, 1, 2, 21], [6, 7], [0, 1, 2, 8, 9], [0, 1, 2, 8, 9, 10], [0, 1, 2, 8, 9, 10, 23], [0, 1, 2, 8, 9, 10], [0, 1, 2, 8, 9, 10], [0, 1, 2, 8, 9, 10, 32], [0, 1, 2, 8, 9, 10], [0, 1, 2, 8, 9, 10], [0, 1, 2, 8, 9, 10, 48], [0, 1, 2, 8, 9, 10], [0, 1, 2, 8, 9, 10, 11], [0, 1, 2, 8, 9, 10, 11, 61], [0, 1, 2, 8, 9, 10], [0, 1, 2, 8, 9, 10], [0, 1, 2, 8, 9, 10, 77], [6, 7], [6, 7]]
noncomputable def Y_ref_MulDiv : EnvT := ⟨Try.prog, lookT []⟩
theorem hY_ref_MulDiv : (Y_ref_MulDiv).Ok := lookT_ok trivial
noncomputable def T_ref_MulDiv_l1 (x0 : Int) (x1 : Int) (x2 : Int) (x3 : Int) (x4 : Int) (x5 : Int) : Tr ((Int × Int × Int × Int × Int × Int) ⊕ ((Int × Int) ⊕ (Int))) :=
  (.ite (decide (x5 ≥ 0))
    (.ite (decide (x4 ≥ (IntKind.i64.wrap (x2 - x4))))
      (.guard ((0 : Int) ≤ (IntKind.u64.wrap x5))
      (.guard ((2 : Int) ≠ 0)
      (.ite ((Int.tmod (Int.fdiv x0 (2 ^ (min (IntKind.u64.wrap x5).toNat 64))) 2) == 1)
        (.guard (x2 ≠ 0)
        (.guard (x2 ≠ 0)
        (.ite (decide ((IntKind.i64.wrap (x4 - (IntKind.i64.wrap (x2 - x4)))) ≥ (IntKind.i64.wrap (x2 - (Int.tmod x1 x2)))))
          (.ite ((decide ((IntKind.i64.wrap ((IntKind.i64.wrap ((IntKind.i64.wrap ((IntKind.i64.wrap (2 * x3)) + 1)) + (IntKind.i64.wrap (Int.tdiv x1 x2)))) + 1)) > 1125899906842624)) || (decide ((IntKind.i64.wrap ((IntKind.i64.wrap ((IntKind.i64.wrap ((IntKind.i64.wrap (2 * x3)) + 1)) + (IntKind.i64.wrap (Int.tdiv x1 x2)))) + 1)) < 0)))
            (.leaf (.inr (.inl (0, 2))))
            (.leaf (.inl (x0, x1, x2, IntKind.i64.wrap ((IntKind.i64.wrap ((IntKind.i64.wrap ((IntKind.i64.wrap (2 * x3)) + 1)) + (IntKind.i64.wrap (Int.tdiv x1 x2)))) + 1), IntKind.i64.wrap ((IntKind.i64.wrap (x4 - (IntKind.i64.wrap (x2 - x4)))) - (IntKind.i64.wrap (x2 - (Int.tmod x1 x2)))), IntKind.i64.wrap (x5 - 1)))))
          (.ite ((decide ((IntKind.i64.wrap ((IntKind.i64.wrap ((IntKind.i64.wrap (2 * x3)) + 1)) + (IntKind.i64.wrap (Int.tdiv x1 x2)))) > 1125899906842624)) || (decide ((IntKind.i64.wrap ((IntKind.i64.wrap ((IntKind.i64.wrap (2 * x3)) + 1)) + (IntKind.i64.wrap (Int.tdiv x1 x2)))) < 0)))
            (.leaf (.inr (.inl (0, 2))))
            (.leaf (.inl (x0, x1, x2, IntKind.i64.wrap ((IntKind.i64.wrap ((IntKind.i64.wrap (2 * x3)) + 1)) + (IntKind.i64.wrap (Int.tdiv x1 x2))), IntKind.i64.wrap ((IntKind.i64.wrap (x4 - (IntKind.i64.wrap (x2 - x4)))) + (Int.tmod x1 x2)), IntKind.i64.wrap (x5 - 1))))))))
        (.ite ((decide ((IntKind.i64.wrap ((IntKind.i64.wrap (2 * x3)) + 1)) > 1125899906842624)) || (decide ((IntKind.i64.wrap ((IntKind.i64.wrap (2 * x3)) + 1)) < 0)))
          (.leaf (.inr (.inl (0, 2))))
          (.leaf (.inl (x0, x1, x2, IntKind.i64.wrap ((IntKind.i64.wrap (2 * x3)) + 1), IntKind.i64.wrap (x4 - (IntKind.i64.wrap (x2 - x4))), IntKind.i64.wrap (x5 - 1))))))))
      (.guard ((0 : Int) ≤ (IntKind.u64.wrap x5))
      (.guard ((2 : Int) ≠ 0)
      (.ite ((Int.tmod (Int.fdiv x0 (2 ^ (min (IntKind.u64.wrap x5).toNat 64))) 2) == 1)
        (.guard (x2 ≠ 0)
        (.guard (x2 ≠ 0)
        (.ite (decide ((IntKind.i64.wrap (x4 + x4)) ≥ (IntKind.i64.wrap (x2 - (Int.tmod x1 x2)))))
          (.ite ((decide ((IntKind.i64.wrap ((IntKind.i64.wrap ((IntKind.i64.wrap (2 * x3)) + (IntKind.i64.wrap (Int.tdiv x1 x2)))) + 1)) > 1125899906842624)) || (decide ((IntKind.i64.wrap ((IntKind.i64.wrap ((IntKind.i64.wrap (2 * x3)) + (IntKind.i64.wrap (Int.tdiv x1 x2)))) + 1)) < 0)))
            (.leaf (.inr (.inl (0, 2))))
            (.leaf (.inl (x0, x1, x2, IntKind.i64.wrap ((IntKind.i64.wrap ((IntKind.i64.wrap (2 * x3)) + (IntKind.i64.wrap (Int.tdiv x1 x2)))) + 1), IntKind.i64.wrap ((IntKind.i64.wrap (x4 + x4)) - (IntKind.i64.wrap (x2 - (Int.tmod x1 x2)))), IntKind.i64.wrap (x5 - 1)))))
          (.ite ((decide ((IntKind.i64.wrap ((IntKind.i64.wrap (2 * x3)) + (IntKind.i64.wrap (Int.tdiv x1 x2)))) > 1125899906842624)) || (decide ((IntKind.i64.wrap ((IntKind.i64.wrap (2 * x3)) + (IntKind.i64.wrap (Int.tdiv x1 x2)))) < 0)))
            (.leaf (.inr (.inl (0, 2))))
            (.leaf (.inl (x0, x1, x2, IntKind.i64.wrap ((IntKind.i64.wrap (2 * x3)) + (IntKind.i64.wrap (Int.tdiv x1 x2))), IntKind.i64.wrap ((IntKind.i64.wrap (x4 + x4)) + (Int.tmod x1 x2)), IntKind.i64.wrap (x5 - 1))))))))
        (.ite ((decide ((IntKind.i64.wrap (2 * x3)) > 1125899906842624)) || (decide ((IntKind.i64.wrap (2 * x3)) < 0)))
          (.leaf (.inr (.inl (0, 2))))
          (.leaf (.inl (x0, x1, x2, IntKind.i64.wrap (2 * x3), IntKind.i64.wrap (x4 + x4), IntKind.i64.wrap (x5 - 1)))))))))
    (.leaf (.inr (.inr x3))))
noncomputable def sh_ref_MulDiv_l1 (x0 : Int) (x1 : Int) (x2 : Int) (x3 : Int) (x4 : Int) (x5 : Int) : Option ((Int × Int) ⊕ (Int)) := iter (fun s : Int × Int × Int × Int × Int × Int => (T_ref_MulDiv_l1 s.1 s.2.1 s.2.2.1 s.2.2.2.1 s.2.2.2.2.1 s.2.2.2.2.2).run) (x0, x1, x2, x3, x4, x5)
noncomputable def A_ref_MulDiv_l1 : Ann := ⟨[], [], [], live_ref_MulDiv, []⟩
noncomputable def q_ref_MulDiv_l1 : LQ (Int × Int × Int × Int × Int × Int) := (LQ.seq (Par.q intP) (LQ.seq (Par.q intP) (LQ.seq (Par.q intP) (LQ.seq (Par.q intP) (LQ.seq (Par.q intP) (Par.q intP))))))
noncomputable def p_ref_MulDiv_l1 : Pat := ⟨[0, 1, 2, 8, 9, 10], []⟩
noncomputable def s_ref_MulDiv_l1 : List BS := []
noncomputable def q_ref_MulDiv_l1_e0 : LQ (Int × Int) := (LQ.seq (Par.q intP) (Par.q intP))
noncomputable def p_ref_MulDiv_l1_e0 : Pat := ⟨[6, 7], []⟩
noncomputable def s_ref_MulDiv_l1_e0 : List BS := []
noncomputable def q_ref_MulDiv_l1_e1 : LQ (Int) := (Par.q intP)
noncomputable def p_ref_MulDiv_l1_e1 : Pat := ⟨[8], []⟩
noncomputable def s_ref_MulDiv_l1_e1 : List BS := []
noncomputable def L_ref_MulDiv_l1 : St → Option LR := pieceL q_ref_MulDiv_l1 79 0 p_ref_MulDiv_l1 s_ref_MulDiv_l1 (fun o => LR.two o (fun r => (.ret, stP q_ref_MulDiv_l1_e0 79 2 p_ref_MulDiv_l1_e0 s_ref_MulDiv_l1_e0 r)) (fun r => (.exit 0, stP q_ref_MulDiv_l1_e1 79 2 p_ref_MulDiv_l1_e1 s_ref_MulDiv_l1_e1 r))) (fun a => iter (fun s : Int × Int × Int × Int × Int × Int => (T_ref_MulDiv_l1 s.1 s.2.1 s.2.2.1 s.2.2.2.1 s.2.2.2.2.1 s.2.2.2.2.2).run) a)
noncomputable def E_ref_MulDiv_l1 : Exit → Option (End ((Int × Int × Int × Int × Int × Int) ⊕ ((Int × Int) ⊕ (Int))))
  | .normal => some ⟨_, q_ref_MulDiv_l1, p_ref_MulDiv_l1, s_ref_MulDiv_l1, fun b => .inl b⟩
  | .ret => some ⟨_, q_ref_MulDiv_l1_e0, p_ref_MulDiv_l1_e0, s_ref_MulDiv_l1_e0, fun b => .inr (.inl b)⟩
  | .exit 0 => some ⟨_, q_ref_MulDiv_l1_e1, p_ref_MulDiv_l1_e1, s_ref_MulDiv_l1_e1, fun b => .inr (.inr b)⟩
  | _ => none
noncomputable def O_ref_MulDiv_l1 : ((Int × Int × Int × Int × Int × Int) ⊕ ((Int × Int) ⊕ (Int))) → Exit × St
  | .inl b => (.normal, stP q_ref_MulDiv_l1 79 2 p_ref_MulDiv_l1 s_ref_MulDiv_l1 b)
  | .inr (.inl b) => (.ret, stP q_ref_MulDiv_l1_e0 79 2 p_ref_MulDiv_l1_e0 s_ref_MulDiv_l1_e0 b)
  | .inr (.inr b) => (.exit 0, stP q_ref_MulDiv_l1_e1 79 2 p_ref_MulDiv_l1_e1 s_ref_MulDiv_l1_e1 b)
theorem lok_ref_MulDiv_l1 : PieceOk (Y_ref_MulDiv).env 0 (sub C_ref_MulDiv [0, 1, 0, 1, 1, 1]) L_ref_MulDiv_l1 :=
  loop_ok (Y := Y_ref_MulDiv) (A := A_ref_MulDiv_l1) hY_ref_MulDiv Facts.mix (root := C_ref_MulDiv) (L := 0) trivial (π := [0, 1, 0, 1, 1, 1]) (c := loopB (sub C_ref_MulDiv [0, 1, 0, 1, 1, 1])) (by kernel_rfl) q_ref_MulDiv_l1 79 2 p_ref_MulDiv_l1 s_ref_MulDiv_l1 E_ref_MulDiv_l1 (fun s => T_ref_MulDiv_l1 s.1 s.2.1 s.2.2.1 s.2.2.2.1 s.2.2.2.2.1 s.2.2.2.2.2) O_ref_MulDiv_l1 (by intro e d h b; unfold E_ref_MulDiv_l1 at h; split at h <;> first | (cases h; rfl) | cases h) (fun _ => rfl) (by intro r; cases r <;> exact (fun h => by cases h)) (fun o => LR.two o (fun r => (.ret, stP q_ref_MulDiv_l1_e0 79 2 p_ref_MulDiv_l1_e0 s_ref_MulDiv_l1_e0 r)) (fun r => (.exit 0, stP q_ref_MulDiv_l1_e1 79 2 p_ref_MulDiv_l1_e1 s_ref_MulDiv_l1_e1 r))) (by intro o Q h; exact Or.elim h (fun ⟨v, h1, h2⟩ => ⟨_, h1, h2⟩) (fun ⟨v, h1, h2⟩ => ⟨_, h1, h2⟩))
    (by rintro ⟨x0, x1, x2, x3, x4, x5⟩; kernel_rfl)
noncomputable def A_ref_MulDiv : Ann := ⟨[([0, 1, 0, 1, 1, 1], L_ref_MulDiv_l1)], [], [], live_ref_MulDiv, []⟩
noncomputable def T_ref_MulDiv (a0 : Int) (a1 : Int) (a2 : Int) : Tr (Int × Int) :=
  (.ite (((decide (a0 < 0)) || (decide (a1 < 0))) || (decide (a2 < 1)))
    (.leaf (0, 2))
    (.two (sh_ref_MulDiv_l1 a0 a1 a2 0 0 62) (fun v1 =>
      (.leaf (v1.1, v1.2))) (fun v2 =>
      (.leaf (v2, 0)))))
noncomputable def sh_ref_MulDiv (a0 : Int) (a1 : Int) (a2 : Int) : Option (Int × Int) := (T_ref_MulDiv a0 a1 a2).run
noncomputable def qa_ref_MulDiv : LQ (Int × Int × Int) := (LQ.seq (Par.q intP) (LQ.seq (Par.q intP) (Par.q intP)))
noncomputable def qr_ref_MulDiv : LQ (Int × Int) := (LQ.seq (Par.q intP) (Par.q intP))
noncomputable def F_ref_MulDiv : SpecT := specF 0 qa_ref_MulDiv 3 [] (fun s => T_ref_MulDiv s.1 s.2.1 s.2.2) default qr_ref_MulDiv 2 []
theorem ok_ref_MulDiv : SpecOk Try.prog 56 (F_ref_MulDiv).spec :=
  specF_ok (Y := Y_ref_MulDiv) (A := A_ref_MulDiv) hY_ref_MulDiv Facts.mix Try.func56 (c := C_ref_MulDiv) (by kernel_rfl) (Lc := 0) ⟨lok_ref_MulDiv_l1, trivial⟩ qa_ref_MulDiv 3 2 [] (fun s => T_ref_MulDiv s.1 s.2.1 s.2.2) default qr_ref_MulDiv 2 [] [] (by decide) (by kernel_rfl) (by rfl) (by decide) (by decide) (by rfl)
    (by rintro ⟨a0, a1, a2⟩; kernel_rfl)

noncomputable def C_ref_Part : Code := Try.f78.body.getD .skip
noncomputable def live_ref_Part : List (List Nat) := [[0, 1], [0, 1, 16], [4, 5], [4, 5]]
noncomputable def Y_ref_Part : EnvT := ⟨Try.prog, lookT [(61, F_ref_In)]⟩
theorem hY_ref_Part : (Y_ref_Part).Ok := lookT_ok ⟨ok_ref_In, trivial⟩
noncomputable def A_ref_Part : Ann := ⟨[], [], [], live_ref_Part, []⟩
noncomputable def T_ref_Part (a0 : Int) (a1 : Int) : Tr (Int × Int) :=
  (.bind (sh_ref_In a0) fun v1 =>
  (.ite (((!v1) || (decide (a1 < 0))) || (decide (a1 > 1000)))
    (.leaf (0, 2))
    (.guard ((1000 : Int) ≠ 0)
    (.guard ((1000 : Int) ≠ 0)
    (.guard ((1000 : Int) ≠ 0)
    (.leaf (IntKind.i64.wrap ((IntKind.i64.wrap ((IntKind.i64.wrap (Int.tdiv a0 1000)) * a1)) + (IntKind.i64.wrap (Int.tdiv (IntKind.i64.wrap ((Int.tmod a0 1000) * a1)) 1000))), 0)))))))
noncomputable def sh_ref_Part (a0 : Int) (a1 : Int) : Option (Int × Int) := (T_ref_Part a0 a1).run
noncomputable def qa_ref_Part : LQ (Int × Int) := (LQ.seq (Par.q intP) (Par.q intP))
noncomputable def qr_ref_Part : LQ (Int × Int) := (LQ.seq (Par.q intP) (Par.q intP))
noncomputable def F_ref_Part : SpecT := specF 0 qa_ref_Part 2 [] (fun s => T_ref_Part s.1 s.2) default qr_ref_Part 2 []
theorem ok_ref_Part : SpecOk Try.prog 78 (F_ref_Part).spec :=
  specF_ok (Y := Y_ref_Part) (A := A_ref_Part) hY_ref_Part Facts.mix Try.func78 (c := C_ref_Part) (by kernel_rfl) (Lc := 0) trivial qa_ref_Part 2 2 [] (fun s => T_ref_Part s.1 s.2) default qr_ref_Part 2 [] [] (by decide) (by kernel_rfl) (by rfl) (by decide) (by decide) (by rfl)
    (by rintro ⟨a0, a1⟩; kernel_rfl)

end Go.Proofs.Ytbpehnghffljiaa.Ab
