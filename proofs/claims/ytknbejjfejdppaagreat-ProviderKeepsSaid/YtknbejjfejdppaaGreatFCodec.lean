/-
  The functions, each by its tree.
-/
import Derived.Test.YtknbejjfejdppaaGreatFacts
import Derived.Test.YtknbejjfejdppaaGreatAbStructs
import Derived.Test.YtknbejjfejdppaaGreatAbFun
import Derived.Test.YtknbejjfejdppaaGreatFLine
namespace Go.Proofs.YtknbejjfejdppaaGreat.Ab
open Go Go.RowKit
set_option maxRecDepth 100000
set_option linter.unusedVariables false
set_option linter.unusedSimpArgs false
noncomputable section

noncomputable def zc63 : Code := Tryz.f121.body.getD .skip
def zv63 : List (List Nat) := [[0, 1], [0, 1, 7, 8, 9], [0, 1, 7, 8, 9, 10], [0, 1, 5, 6, 7, 8, 9], [0, 1, 7, 8, 9, 47], [4], [0, 1, 7, 8, 9], [4]]
noncomputable def zy63 : EnvT := ⟨Tryz.prog, lookT []⟩
theorem zh63 : (zy63).Ok := lookT_ok trivial
def T_codec_powers_l1 (x0 : (List Power)) (x1 : Int) (x2 : (List Power)) (x3 : Int) (x4 : Int) : Tr (((List Power) × Int × (List Power) × Int × Int) ⊕ ((Bool) ⊕ (Unit))) :=
  (.ite (decide (x4 < x3))
    (.guard ((0 : Int) ≤ x4 ∧ x4 < ((Sl.len (.powers x2) : Nat) : Int))
    (.guard (((decide (x4 > 0)) = true → (((decide (((x2.getD x4.toNat default).V) < 0)) || (decide (((x2.getD x4.toNat default).V) ≥ 6))) = false → ((0 : Int) ≤ (IntKind.i64.wrap (x4 - 1)) ∧ (IntKind.i64.wrap (x4 - 1)) < ((Sl.len (.powers x0) : Nat) : Int)) ∧ True)))
    (.ite (((((decide (((x2.getD x4.toNat default).V) < 0)) || (decide (((x2.getD x4.toNat default).V) ≥ 6))) || ((decide (x4 > 0)) && (decide (((x0.getD ((IntKind.i64.wrap (x4 - 1)).toNat) default).V) ≥ ((x2.getD x4.toNat default).V))))) || (decide (((x2.getD x4.toNat default).N) < x1))) || (decide (((x2.getD x4.toNat default).N) > 1125899906842624)))
      (.leaf (.inr (.inl false)))
      (.leaf (.inl (x0, x1, x2, x3, IntKind.i64.wrap (x4 + 1)))))))
    (.leaf (.inr (.inr ()))))
def sh_codec_powers_l1 (x0 : (List Power)) (x1 : Int) (x2 : (List Power)) (x3 : Int) (x4 : Int) : Option ((Bool) ⊕ (Unit)) := iter (fun s : (List Power) × Int × (List Power) × Int × Int => (T_codec_powers_l1 s.1 s.2.1 s.2.2.1 s.2.2.2.1 s.2.2.2.2).run) (x0, x1, x2, x3, x4)
def za63a : Ann := ⟨[], [], [], zv63, []⟩
def zq63a : EndD ((List Power) × Int × (List Power) × Int × Int) := ⟨(LQ.seq (Par.q powersP) (LQ.seq (Par.q intP) (LQ.seq (Par.q powersP) (LQ.seq (Par.q intP) (Par.q intP))))), ⟨[0, 1, 7, 8, 9], [.pub 0, .nilsl 0 (.powers []), .pub 7, .nilsl 7 (.powers [])]⟩, []⟩
def zq63ae0 : EndD (Bool) := ⟨(Par.q boolP), ⟨[4], []⟩, []⟩
def zq63ae1 : EndD (Unit) := ⟨LQ.nil, ⟨[], []⟩, []⟩
def zl63a : St → Option LR := L2 49 3 0 zq63a .ret zq63ae0 (.exit 0) zq63ae1 (fun s => T_codec_powers_l1 s.1 s.2.1 s.2.2.1 s.2.2.2.1 s.2.2.2.2)
theorem zk63a : PieceOk (zy63).env 0 (sub zc63 [0, 1, 0, 1]) zl63a :=
  loop2 (A := za63a) zh63 Facts.mix trivial (k := loopB (sub zc63 [0, 1, 0, 1])) (by kernel_rfl) rfl rfl (by rintro ⟨x0, x1, x2, x3, x4⟩; kernel_rfl)
def za63 : Ann := ⟨[([0, 1, 0, 1], zl63a)], [], [], zv63, []⟩
def T_codec_powers (a0 : (List Power)) (a1 : Int) : Tr (Bool) :=
  (.two (sh_codec_powers_l1 a0 a1 a0 ((a0.length : Nat) : Int) 0) (fun v1 =>
    (.leaf v1)) (fun v2 =>
    (.leaf true)))
def sh_codec_powers (a0 : (List Power)) (a1 : Int) : Option (Bool) := (T_codec_powers a0 a1).run
def zr63 : LQ ((List Power) × Int) := (LQ.seq (Par.q powersP) (Par.q intP))
def qr_codec_powers : LQ (Bool) := (Par.q boolP)
def F_codec_powers : SpecT := specF 0 zr63 2 [] (fun s => T_codec_powers s.1 s.2) default qr_codec_powers 1 []
theorem ok_codec_powers : SpecOk Tryz.prog 121 (F_codec_powers).spec :=
  specF_ok (A := za63) zh63 Facts.mix Tryz.func121 (c := zc63) (by kernel_rfl) (Lc := 0) ⟨zk63a, trivial⟩ zr63 2 3 [] (fun s => T_codec_powers s.1 s.2) default qr_codec_powers 1 [] [] (by decide) (by kernel_rfl) (by rfl) (by decide) (by decide) (by rfl)
    (by rintro ⟨a0, a1⟩; kernel_rfl)

noncomputable def zc64 : Code := Tryz.f71.body.getD .skip
def zv64 : List (List Nat) := [[1], [1, 5], [2], [1, 14], [2], [1, 23], [2], [1, 47], [2], [1, 76], [2], [1, 82, 83, 84], [1, 82, 83, 84, 85], [1, 3, 4, 82, 83, 84], [1, 82, 83, 84, 108], [2], [1, 82, 83, 84], [2]]
noncomputable def zy64 : EnvT := ⟨Tryz.prog, lookT [(121, F_codec_powers)]⟩
theorem zh64 : (zy64).Ok := lookT_ok ⟨ok_codec_powers, trivial⟩
def T_codec_Good_l1 (x0 : (List Int)) (x1 : Int) (x2 : Int) (x3 : Packet) : Tr (((List Int) × Int × Int × Packet) ⊕ ((Int) ⊕ (Unit))) :=
  (.ite (decide (x2 < x1))
    (.guard ((0 : Int) ≤ x2 ∧ x2 < ((Sl.len (.ints x0) : Nat) : Int))
    (.guard (((decide (x2 > 0)) = true → (((decide ((x0.getD x2.toNat 0) < 0)) || (decide ((x0.getD x2.toNat 0) ≥ 6))) = false → ((0 : Int) ≤ (IntKind.i64.wrap (x2 - 1)) ∧ (IntKind.i64.wrap (x2 - 1)) < ((Sl.len (.ints x3.Done) : Nat) : Int)) ∧ True)))
    (.ite (((decide ((x0.getD x2.toNat 0) < 0)) || (decide ((x0.getD x2.toNat 0) ≥ 6))) || ((decide (x2 > 0)) && (decide ((x3.Done.getD ((IntKind.i64.wrap (x2 - 1)).toNat) 0) ≥ (x0.getD x2.toNat 0)))))
      (.leaf (.inr (.inl 2)))
      (.leaf (.inl (x0, x1, IntKind.i64.wrap (x2 + 1), x3))))))
    (.leaf (.inr (.inr ()))))
def sh_codec_Good_l1 (x0 : (List Int)) (x1 : Int) (x2 : Int) (x3 : Packet) : Option ((Int) ⊕ (Unit)) := iter (fun s : (List Int) × Int × Int × Packet => (T_codec_Good_l1 s.1 s.2.1 s.2.2.1 s.2.2.2).run) (x0, x1, x2, x3)
def za64a : Ann := ⟨[], [], [], zv64, []⟩
def zq64a : EndD ((List Int) × Int × Int × Packet) := ⟨(LQ.skip (LQ.const (.ptr 0 0)) (LQ.seq (Par.q intsP) (LQ.seq (Par.q intP) (LQ.seq (Par.q intP) (LP.q packetL))))), ⟨[1, 82, 83, 84], [.pub 82, .nilsl 82 (.ints [])]⟩, [.cells 66 6]⟩
def zq64ae0 : EndD (Int) := ⟨(Par.q intP), ⟨[2], []⟩, []⟩
def zq64ae1 : EndD (Unit) := ⟨LQ.nil, ⟨[], []⟩, []⟩
def zl64a : St → Option LR := L2 110 3 0 zq64a .ret zq64ae0 (.exit 1) zq64ae1 (fun s => T_codec_Good_l1 s.1 s.2.1 s.2.2.1 s.2.2.2)
theorem zk64a : PieceOk (zy64).env 0 (sub zc64 [0, 1, 0, 1, 1]) zl64a :=
  loop2 (A := za64a) zh64 Facts.mix trivial (k := loopB (sub zc64 [0, 1, 0, 1, 1])) (by kernel_rfl) rfl rfl (by rintro ⟨x0, x1, x2, x3⟩; kernel_rfl)
def za64 : Ann := ⟨[([0, 1, 0, 1, 1], zl64a)], [], [], zv64, []⟩
def T_codec_Good (a0 : Packet) : Tr (Int) :=
  (.ite ((decide (a0.Kind < 1)) || (decide (a0.Kind > 4)))
    (.leaf 3)
    (.ite ((decide (a0.Id < 1)) || (decide (a0.Id > 1099511627776)))
      (.leaf 2)
      (.ite ((decide (a0.Kind ≥ 3)) && ((((decide (a0.V < 0)) || (decide (a0.V ≥ 6))) || (decide (a0.N < 1))) || (decide (a0.N > 1125899906842624))))
        (.leaf 2)
        (.ite (((decide (a0.Kind ≤ 2)) && ((a0.V != 0) || (a0.N != 0))) || ((a0.Kind != 1) && (decide ((IntKind.i64.wrap (((a0.Set.length : Nat) : Int) + ((a0.Done.length : Nat) : Int))) > 0))))
          (.leaf 1)
          (.bind (sh_codec_powers a0.Set 0) fun v1 =>
          (.ite (!v1)
            (.leaf 2)
            (.two (sh_codec_Good_l1 a0.Done ((a0.Done.length : Nat) : Int) 0 a0) (fun v2 =>
              (.leaf v2)) (fun v3 =>
              (.leaf 0)))))))))
def sh_codec_Good (a0 : Packet) : Option (Int) := (T_codec_Good a0).run
def zr64 : LQ (Packet) := (Par.q (Par.ofLP packetL))
def qr_codec_Good : LQ (Int) := (Par.q intP)
def F_codec_Good : SpecT := specF 0 zr64 1 [] (fun s => T_codec_Good s) default qr_codec_Good 1 []
theorem ok_codec_Good : SpecOk Tryz.prog 71 (F_codec_Good).spec :=
  specF_ok (A := za64) zh64 Facts.mix Tryz.func71 (c := zc64) (by kernel_rfl) (Lc := 0) ⟨zk64a, trivial⟩ zr64 1 3 [] (fun s => T_codec_Good s) default qr_codec_Good 1 [] [] (by decide) (by kernel_rfl) (by rfl) (by decide) (by decide) (by rfl)
    (by rintro a0; kernel_rfl)

noncomputable def zc65 : Code := Tryz.f78.body.getD .skip
def zv65 : List (List Nat) := [[0, 1, 2], [0, 1, 7], [0, 1, 7, 11], [0, 1, 7], [0, 1, 7], [6]]
noncomputable def zy65 : EnvT := ⟨Tryz.prog, lookT []⟩
theorem zh65 : (zy65).Ok := lookT_ok trivial
def T_codec_put_l1 (x0 : Int) (x1 : Int) (x2 : (List UInt8)) : Tr ((Int × Int × (List UInt8)) ⊕ ((List UInt8))) :=
  (.ite (decide (x1 ≥ 0))
    (.guard ((0 : Int) ≤ (IntKind.u64.wrap (IntKind.i64.wrap (8 * x1))))
    (.guard (0 ≤ (IntKind.u8.wrap (Int.fdiv x0 (2 ^ (min (IntKind.u64.wrap (IntKind.i64.wrap (8 * x1))).toNat 64)))) ∧ (IntKind.u8.wrap (Int.fdiv x0 (2 ^ (min (IntKind.u64.wrap (IntKind.i64.wrap (8 * x1))).toNat 64)))) < 256)
    (.guard ((Sl.len (.bytes x2) + Sl.len (.bytes [UInt8.ofNat (IntKind.u8.wrap (Int.fdiv x0 (2 ^ (min (IntKind.u64.wrap (IntKind.i64.wrap (8 * x1))).toNat 64)))).toNat])) * 1 ≤ 140737488355328)
    (.leaf (.inl (x0, IntKind.i64.wrap (x1 - 1), x2 ++ [UInt8.ofNat (IntKind.u8.wrap (Int.fdiv x0 (2 ^ (min (IntKind.u64.wrap (IntKind.i64.wrap (8 * x1))).toNat 64)))).toNat]))))))
    (.leaf (.inr x2)))
def sh_codec_put_l1 (x0 : Int) (x1 : Int) (x2 : (List UInt8)) : Option ((List UInt8)) := iter (fun s : Int × Int × (List UInt8) => (T_codec_put_l1 s.1 s.2.1 s.2.2).run) (x0, x1, x2)
def za65a : Ann := ⟨[], [], [], zv65, []⟩
def zq65a : EndD (Int × Int × (List UInt8)) := ⟨(LQ.skip (LQ.const (.own 0)) (LQ.seq (Par.q intP) (LQ.seq (Par.q intP) (Par.q bytesP)))), ⟨[0, 1, 7], [.nilown 0 5 (.bytes [])]⟩, [.rows 5]⟩
def zq65ae0 : EndD ((List UInt8)) := ⟨(LQ.skip (LQ.const (.own 0)) (Par.q bytesP)), ⟨[0], [.nilown 0 5 (.bytes [])]⟩, [.rows 5]⟩
def zl65a : St → Option LR := L1 24 5 0 zq65a (.exit 0) zq65ae0 (fun s => T_codec_put_l1 s.1 s.2.1 s.2.2)
theorem zk65a : PieceOk (zy65).env 0 (sub zc65 [0, 1, 0, 1]) zl65a :=
  loop1 (A := za65a) zh65 Facts.mix trivial (k := loopB (sub zc65 [0, 1, 0, 1])) (by kernel_rfl) rfl (by rintro ⟨x0, x1, x2⟩; kernel_rfl)
def za65 : Ann := ⟨[([0, 1, 0, 1], zl65a)], [], [], zv65, []⟩
def T_codec_put (a0 : Int) (a1 : Int) (a2 : (List UInt8)) : Tr ((List UInt8)) :=
  (.bind (sh_codec_put_l1 a0 (IntKind.i64.wrap (a1 - 1)) a2) fun v1 =>
  (.leaf v1))
def sh_codec_put (a0 : Int) (a1 : Int) (a2 : (List UInt8)) : Option ((List UInt8)) := (T_codec_put a0 a1 a2).run
def zr65 : LQ (Int × Int × (List UInt8)) := (LQ.skip (LQ.const (.own 0)) (LQ.seq (Par.q intP) (LQ.seq (Par.q intP) (Par.q bytesP))))
def qr_codec_put : LQ ((List UInt8)) := (LQ.skip (LQ.const (.own 0)) (Par.q bytesP))
def F_codec_put : SpecT := specF 0 zr65 3 [.rows 5] (fun s => T_codec_put s.1 s.2.1 s.2.2) default qr_codec_put 1 [.rows 5]
theorem ok_codec_put : SpecOk Tryz.prog 78 (F_codec_put).spec :=
  specF_ok (A := za65) zh65 Facts.mix Tryz.func78 (c := zc65) (by kernel_rfl) (Lc := 0) ⟨zk65a, trivial⟩ zr65 3 5 [.rows 5] (fun s => T_codec_put s.1 s.2.1 s.2.2) default qr_codec_put 1 [.rows 5] [.nilown 6 5 (.bytes [])] (by decide) (by kernel_rfl) (by rfl) (by decide) (by decide) (by rfl)
    (by rintro ⟨a0, a1, a2⟩; kernel_rfl)

noncomputable def zc66 : Code := Tryz.f28.body.getD .skip
def zv66 : List (List Nat) := [[1], [1, 4], [1, 4, 13], [2, 3], [1, 5], [1, 5], [1, 5, 34, 35, 36], [1, 5, 34, 35, 36, 37], [1, 5, 7, 34, 35, 36], [1, 5, 34, 35, 36], [1, 5, 34, 35, 36], [1, 5], [5, 54, 55, 56], [5, 54, 55, 56, 57], [5, 9, 54, 55, 56], [5, 54, 55, 56], [5, 54, 55, 56], [2, 3]]
noncomputable def zy66 : EnvT := ⟨Tryz.prog, lookT [(71, F_codec_Good), (78, F_codec_put)]⟩
theorem zh66 : (zy66).Ok := lookT_ok ⟨ok_codec_Good, ok_codec_put, trivial⟩
def T_codec_Encode_l1 (x0 : (List Power)) (x1 : Int) (x2 : Int) (x3 : Packet) (x4 : (List UInt8)) : Tr (((List Power) × Int × Int × Packet × (List UInt8)) ⊕ (Packet × (List UInt8))) :=
  (.ite (decide (x2 < x1))
    (.guard ((0 : Int) ≤ x2 ∧ x2 < ((Sl.len (.powers x0) : Nat) : Int))
    (.guard ((sh_codec_put ((x0.getD x2.toNat default).V) 1 x4).isSome = true)
    (.guard ((sh_codec_put ((x0.getD x2.toNat default).N) 7 ((sh_codec_put ((x0.getD x2.toNat default).V) 1 x4).getD default)).isSome = true)
    (.leaf (.inl (x0, x1, IntKind.i64.wrap (x2 + 1), x3, ((sh_codec_put ((x0.getD x2.toNat default).N) 7 ((sh_codec_put ((x0.getD x2.toNat default).V) 1 x4).getD default)).getD default)))))))
    (.leaf (.inr (x3, x4))))
def sh_codec_Encode_l1 (x0 : (List Power)) (x1 : Int) (x2 : Int) (x3 : Packet) (x4 : (List UInt8)) : Option (Packet × (List UInt8)) := iter (fun s : (List Power) × Int × Int × Packet × (List UInt8) => (T_codec_Encode_l1 s.1 s.2.1 s.2.2.1 s.2.2.2.1 s.2.2.2.2).run) (x0, x1, x2, x3, x4)
def za66a : Ann := ⟨[], [], [], zv66, []⟩
def zq66a : EndD ((List Power) × Int × Int × Packet × (List UInt8)) := ⟨(LQ.skip (LQ.const (.ptr 0 0)) (LQ.skip (LQ.const (.own 1)) (LQ.seq (Par.q powersP) (LQ.seq (Par.q intP) (LQ.seq (Par.q intP) (LQ.seq (LP.q packetL) (Par.q bytesP))))))), ⟨[1, 5, 34, 35, 36], [.nilown 5 5 (.bytes []), .pub 34, .nilsl 34 (.powers [])]⟩, [.cells 66 6, .rows 5]⟩
def zq66ae0 : EndD (Packet × (List UInt8)) := ⟨(LQ.skip (LQ.const (.ptr 0 0)) (LQ.skip (LQ.const (.own 1)) (LQ.seq (LP.q packetL) (Par.q bytesP)))), ⟨[1, 5], [.nilown 5 5 (.bytes [])]⟩, [.cells 66 6, .rows 5]⟩
def zl66a : St → Option LR := L1 66 8 0 zq66a (.exit 0) zq66ae0 (fun s => T_codec_Encode_l1 s.1 s.2.1 s.2.2.1 s.2.2.2.1 s.2.2.2.2)
theorem zk66a : PieceOk (zy66).env 0 (sub zc66 [0, 1, 0, 1, 1, 1, 1]) zl66a :=
  loop1 (A := za66a) zh66 Facts.mix trivial (k := loopB (sub zc66 [0, 1, 0, 1, 1, 1, 1])) (by kernel_rfl) rfl (by rintro ⟨x0, x1, x2, x3, x4⟩; kernel_rfl)
def T_codec_Encode_l2 (x0 : (List Int)) (x1 : Int) (x2 : Int) (x3 : (List UInt8)) : Tr (((List Int) × Int × Int × (List UInt8)) ⊕ ((List UInt8))) :=
  (.ite (decide (x2 < x1))
    (.guard ((0 : Int) ≤ x2 ∧ x2 < ((Sl.len (.ints x0) : Nat) : Int))
    (.bind (sh_codec_put (x0.getD x2.toNat 0) 1 x3) fun v4 =>
    (.leaf (.inl (x0, x1, IntKind.i64.wrap (x2 + 1), v4)))))
    (.leaf (.inr x3)))
def sh_codec_Encode_l2 (x0 : (List Int)) (x1 : Int) (x2 : Int) (x3 : (List UInt8)) : Option ((List UInt8)) := iter (fun s : (List Int) × Int × Int × (List UInt8) => (T_codec_Encode_l2 s.1 s.2.1 s.2.2.1 s.2.2.2).run) (x0, x1, x2, x3)
def za66b : Ann := ⟨[], [], [], zv66, []⟩
def zq66b : EndD ((List Int) × Int × Int × (List UInt8)) := ⟨(LQ.skip (LQ.const (.own 0)) (LQ.seq (Par.q intsP) (LQ.seq (Par.q intP) (LQ.seq (Par.q intP) (Par.q bytesP))))), ⟨[5, 54, 55, 56], [.nilown 5 5 (.bytes []), .pub 54, .nilsl 54 (.ints [])]⟩, [.rows 5]⟩
def zq66be0 : EndD ((List UInt8)) := ⟨(LQ.skip (LQ.const (.own 0)) (Par.q bytesP)), ⟨[5], [.nilown 5 5 (.bytes [])]⟩, [.rows 5]⟩
def zl66b : St → Option LR := L1 66 8 0 zq66b (.exit 2) zq66be0 (fun s => T_codec_Encode_l2 s.1 s.2.1 s.2.2.1 s.2.2.2)
theorem zk66b : PieceOk (zy66).env 0 (sub zc66 [0, 1, 0, 1, 1, 1, 1, 1, 1]) zl66b :=
  loop1 (A := za66b) zh66 Facts.mix trivial (k := loopB (sub zc66 [0, 1, 0, 1, 1, 1, 1, 1, 1])) (by kernel_rfl) rfl (by rintro ⟨x0, x1, x2, x3⟩; kernel_rfl)
def za66 : Ann := ⟨[([0, 1, 0, 1, 1, 1, 1], zl66a), ([0, 1, 0, 1, 1, 1, 1, 1, 1], zl66b)], [], [], zv66, []⟩
def T_codec_Encode (a0 : Packet) : Tr (ByteArray × Int) :=
  (.bind (sh_codec_Good a0) fun v1 =>
  (.ite (v1 != 0)
    (.leaf ((⟨#[]⟩ : ByteArray), v1))
    (.guard (0 ≤ (IntKind.u8.wrap a0.Kind) ∧ (IntKind.u8.wrap a0.Kind) < 256)
    (.guard ((sh_codec_put a0.Id 6 [UInt8.ofNat (IntKind.u8.wrap a0.Kind).toNat]).isSome = true)
    (.guard ((sh_codec_put a0.V 1 ((sh_codec_put a0.Id 6 [UInt8.ofNat (IntKind.u8.wrap a0.Kind).toNat]).getD default)).isSome = true)
    (.guard ((sh_codec_put a0.N 7 ((sh_codec_put a0.V 1 ((sh_codec_put a0.Id 6 [UInt8.ofNat (IntKind.u8.wrap a0.Kind).toNat]).getD default)).getD default)).isSome = true)
    (.guard ((sh_codec_put ((a0.Set.length : Nat) : Int) 1 ((sh_codec_put a0.N 7 ((sh_codec_put a0.V 1 ((sh_codec_put a0.Id 6 [UInt8.ofNat (IntKind.u8.wrap a0.Kind).toNat]).getD default)).getD default)).getD default)).isSome = true)
    (.bind (sh_codec_Encode_l1 a0.Set ((a0.Set.length : Nat) : Int) 0 a0 ((sh_codec_put ((a0.Set.length : Nat) : Int) 1 ((sh_codec_put a0.N 7 ((sh_codec_put a0.V 1 ((sh_codec_put a0.Id 6 [UInt8.ofNat (IntKind.u8.wrap a0.Kind).toNat]).getD default)).getD default)).getD default)).getD default)) fun v2 =>
    (.bind (sh_codec_put ((v2.1.Done.length : Nat) : Int) 1 v2.2) fun v3 =>
    (.bind (sh_codec_Encode_l2 v2.1.Done ((v2.1.Done.length : Nat) : Int) 0 v3) fun v5 =>
    (.leaf ((⟨v5.toArray⟩ : ByteArray), 0))))))))))))
def sh_codec_Encode (a0 : Packet) : Option (ByteArray × Int) := (T_codec_Encode a0).run
def zr66 : LQ (Packet) := (Par.q (Par.ofLP packetL))
def qr_codec_Encode : LQ (ByteArray × Int) := (LQ.seq (Par.q strP) (Par.q intP))
def F_codec_Encode : SpecT := specF 0 zr66 1 [] (fun s => T_codec_Encode s) default qr_codec_Encode 2 []
theorem ok_codec_Encode : SpecOk Tryz.prog 28 (F_codec_Encode).spec :=
  specF_ok (A := za66) zh66 Facts.mix Tryz.func28 (c := zc66) (by kernel_rfl) (Lc := 0) ⟨zk66a, zk66b, trivial⟩ zr66 1 8 [] (fun s => T_codec_Encode s) default qr_codec_Encode 2 [] [] (by decide) (by kernel_rfl) (by rfl) (by decide) (by decide) (by rfl)
    (by rintro a0; kernel_rfl)

noncomputable def zc67 : Code := Tryz.f76.body.getD .skip
def zv67 : List (List Nat) := [[0, 1], [0, 1, 14], [], [4], [0, 1, 5], [0, 1, 5, 27, 28, 29], [0, 1, 5, 27, 28, 29, 30], [0, 1, 5, 7, 27, 28, 29], [0, 1, 5, 27, 28, 29], [0, 1, 5, 27, 28, 29], [5], [4]]
noncomputable def zy67 : EnvT := ⟨Tryz.prog, lookT []⟩
theorem zh67 : (zy67).Ok := lookT_ok trivial
def T_codec_taker_number_l1 (x0 : Int) (x1 : Int) (x2 : (List UInt8)) (x3 : Int) (x4 : Int) (x5 : Taker) : Tr ((Int × Int × (List UInt8) × Int × Int × Taker) ⊕ (Int × Int × Taker)) :=
  (.ite (decide (x4 < x3))
    (.guard ((0 : Int) ≤ x4 ∧ x4 < ((Sl.len (.bytes x2) : Nat) : Int))
    (.guard ((0 : Int) ≤ 8)
    (.leaf (.inl (x0, IntKind.i64.wrap (((BitVec.ofInt 64 (IntKind.i64.wrap (x1 * 2 ^ 8)) ||| BitVec.ofInt 64 (IntKind.i64.wrap (((x2.getD x4.toNat 0).toNat : Nat) : Int))).toNat : Nat) : Int), x2, x3, IntKind.i64.wrap (x4 + 1), x5)))))
    (.leaf (.inr (x0, x1, x5))))
def sh_codec_taker_number_l1 (x0 : Int) (x1 : Int) (x2 : (List UInt8)) (x3 : Int) (x4 : Int) (x5 : Taker) : Option (Int × Int × Taker) := iter (fun s : Int × Int × (List UInt8) × Int × Int × Taker => (T_codec_taker_number_l1 s.1 s.2.1 s.2.2.1 s.2.2.2.1 s.2.2.2.2.1 s.2.2.2.2.2).run) (x0, x1, x2, x3, x4, x5)
def za67a : Ann := ⟨[], [], [], zv67, []⟩
def zq67a : EndD (Int × Int × (List UInt8) × Int × Int × Taker) := ⟨(LQ.skip (LQ.const (.ptr 0 0)) (LQ.seq (Par.q intP) (LQ.seq (Par.q intP) (LQ.seq (Par.q bytesP) (LQ.seq (Par.q intP) (LQ.seq (Par.q intP) (LP.q takerL))))))), ⟨[0, 1, 5, 27, 28, 29], [.pub 27, .nilsl 27 (.bytes [])]⟩, [.cells 121 2]⟩
def zq67ae0 : EndD (Int × Int × Taker) := ⟨(LQ.skip (LQ.const (.ptr 0 0)) (LQ.seq (Par.q intP) (LQ.seq (Par.q intP) (LP.q takerL)))), ⟨[0, 1, 5], []⟩, [.cells 121 2]⟩
def zl67a : St → Option LR := L1 49 3 1 zq67a (.exit 0) zq67ae0 (fun s => T_codec_taker_number_l1 s.1 s.2.1 s.2.2.1 s.2.2.2.1 s.2.2.2.2.1 s.2.2.2.2.2)
theorem zk67a : PieceOk (zy67).env 1 (sub zc67 [0, 1, 0, 1, 1, 1]) zl67a :=
  loop1 (A := za67a) zh67 Facts.mix trivial (k := loopB (sub zc67 [0, 1, 0, 1, 1, 1])) (by kernel_rfl) rfl (by rintro ⟨x0, x1, x2, x3, x4, x5⟩; kernel_rfl)
def za67 : Ann := ⟨[([0, 1, 0, 1, 1, 1], zl67a)], [], [], zv67, []⟩
def T_codec_taker_number (a0 : Int) (a1 : Taker) : Tr (Int × Taker) :=
  (.ite (decide (a0 > ((a1.s.size : Nat) : Int)))
    (.leaf (0, (⟨(⟨#[]⟩ : ByteArray), true⟩ : Taker)))
    (.guard ((0 : Int) ≤ 0 ∧ 0 ≤ (a0 : Int) ∧ a0 ≤ ((a1.s.size : Nat) : Int))
    (.guard ((a1.s.extract 0 a0.toNat).size ≤ 9223372036854775807)
    (.bind (sh_codec_taker_number_l1 a0 0 ((a1.s.extract 0 a0.toNat).data.toList) ((((a1.s.extract 0 a0.toNat).data.toList).length : Nat) : Int) 0 a1) fun v1 =>
    (.guard ((0 : Int) ≤ v1.1 ∧ v1.1 ≤ (((v1.2.2.s.size : Nat) : Int) : Int) ∧ ((v1.2.2.s.size : Nat) : Int) ≤ ((v1.2.2.s.size : Nat) : Int))
    (.leaf (v1.2.1, (⟨v1.2.2.s.extract v1.1.toNat v1.2.2.s.size, v1.2.2.bad⟩ : Taker))))))))
def sh_codec_taker_number (a0 : Int) (a1 : Taker) : Option (Int × Taker) := (T_codec_taker_number a0 a1).run
def zr67 : LQ (Int × Taker) := (LQ.skip (LQ.const (.ptr 0 0)) (LQ.seq (Par.q intP) (LP.q takerL)))
def qr_codec_taker_number : LQ (Int × Taker) := (LQ.seq (Par.q intP) (LP.q takerL))
def F_codec_taker_number : SpecT := specF 1 zr67 2 [.cells 121 2] (fun s => T_codec_taker_number s.1 s.2) default qr_codec_taker_number 1 [.cells 121 2]
theorem ok_codec_taker_number : SpecOk Tryz.prog 76 (F_codec_taker_number).spec :=
  specF_ok (A := za67) zh67 Facts.mix Tryz.func76 (c := zc67) (by kernel_rfl) (Lc := 1) ⟨zk67a, trivial⟩ zr67 2 3 [.cells 121 2] (fun s => T_codec_taker_number s.1 s.2) default qr_codec_taker_number 1 [.cells 121 2] [] (by decide) (by kernel_rfl) (by rfl) (by decide) (by decide) (by rfl)
    (by rintro ⟨a0, a1⟩; kernel_rfl)

noncomputable def zc68 : Code := Tryz.f26.body.getD .skip
def zv68 : List (List Nat) := [[0, 2], [2, 4], [2, 4, 5], [2, 4, 5, 6], [2, 4, 5, 6, 32], [2, 4, 5, 6], [2, 4, 5, 6, 7], [2, 4, 5, 6], [2, 4, 5, 8], [2, 4, 5, 8, 56], [2, 4, 5, 8], [2, 4, 5, 8], [2, 5, 76], [2, 3], [2, 5, 9], [2, 5, 9, 81], [2, 3], [2, 3]]
noncomputable def zy68 : EnvT := ⟨Tryz.prog, lookT [(76, F_codec_taker_number), (71, F_codec_Good)]⟩
theorem zh68 : (zy68).Ok := lookT_ok ⟨ok_codec_taker_number, ok_codec_Good, trivial⟩
def T_codec_Decode_l1 (x0 : Int) (x1 : Packet) (x2 : Taker) (x3 : Packet) : Tr ((Int × Packet × Taker × Packet) ⊕ (Packet × Taker × Packet)) :=
  (.ite ((decide (x0 > 0)) && (!x2.bad))
    (.bind (sh_codec_taker_number 1 x2) fun v6 =>
    (.guard ((sh_codec_taker_number 7 v6.2).isSome = true)
    (.guard ((Sl.len (.powers x3.Set) + Sl.len (.powers [(⟨v6.1, ((sh_codec_taker_number 7 v6.2).getD default).1⟩ : Power)])) * 16 ≤ 140737488355328)
    (.leaf (.inl (IntKind.i64.wrap (x0 - 1), x1, (((sh_codec_taker_number 7 v6.2).getD default).2), { (x3 : Packet) with Set := x3.Set ++ [(⟨v6.1, ((sh_codec_taker_number 7 v6.2).getD default).1⟩ : Power)] }))))))
    (.leaf (.inr (x1, x2, x3))))
def sh_codec_Decode_l1 (x0 : Int) (x1 : Packet) (x2 : Taker) (x3 : Packet) : Option (Packet × Taker × Packet) := iter (fun s : Int × Packet × Taker × Packet => (T_codec_Decode_l1 s.1 s.2.1 s.2.2.1 s.2.2.2).run) (x0, x1, x2, x3)
def za68a : Ann := ⟨[], [], [], zv68, []⟩
def zq68a : EndD (Int × Packet × Taker × Packet) := ⟨(LQ.map (LQ.skip (LQ.const (.ptr 0 0)) (LQ.skip (LQ.const (.ptr 1 0)) (LQ.skip (LQ.const (.ptr 2 0)) (LQ.seq (Par.q intP) (LQ.seq (Par.q intP) (LQ.seq (Par.q intP) (LQ.seq (Par.q intP) (LQ.seq (Par.q intP) (LQ.skip (LQ.const (.own 3)) (LQ.skip (LQ.const (.own 4)) (LQ.seq (LP.q takerL) (LQ.seq (Par.q intP) (LQ.seq (Par.q intP) (LQ.seq (Par.q intP) (LQ.seq (Par.q intP) (LQ.skip (LQ.const (.own 5)) (LQ.skip (LQ.const (.own 6)) (LQ.seq (Par.q powersP) (LQ.seq (Par.q intsP) (LQ.seq (Par.q powersP) (Par.q intsP))))))))))))))))))))) (fun x : Int × Int × Int × Int × Int × Taker × Int × Int × Int × Int × (List Power) × (List Int) × (List Power) × (List Int) => ((x.1, (⟨x.2.1, x.2.2.1, x.2.2.2.1, x.2.2.2.2.1, x.2.2.2.2.2.2.2.2.2.2.1, x.2.2.2.2.2.2.2.2.2.2.2.1⟩ : Packet), x.2.2.2.2.2.1, (⟨x.2.2.2.2.2.2.1, x.2.2.2.2.2.2.2.1, x.2.2.2.2.2.2.2.2.1, x.2.2.2.2.2.2.2.2.2.1, x.2.2.2.2.2.2.2.2.2.2.2.2.1, x.2.2.2.2.2.2.2.2.2.2.2.2.2⟩ : Packet)) : Int × Packet × Taker × Packet)) (fun y => (y.1, y.2.1.Kind, y.2.1.Id, y.2.1.V, y.2.1.N, y.2.2.1, y.2.2.2.Kind, y.2.2.2.Id, y.2.2.2.V, y.2.2.2.N, y.2.1.Set, y.2.1.Done, y.2.2.2.Set, y.2.2.2.Done)) (fun _ => rfl)), ⟨[2, 4, 5, 6], [.nilcell 2 4 116 (.powers []), .nilcell 2 5 3 (.ints []), .nilcell 5 4 116 (.powers []), .nilcell 5 5 3 (.ints [])]⟩, [.cells 66 6, .cells 121 2, .cells 66 6, .rows 116, .rows 3, .rows 116, .rows 3]⟩
def zq68ae0 : EndD (Packet × Taker × Packet) := ⟨(LQ.map (LQ.skip (LQ.const (.ptr 0 0)) (LQ.skip (LQ.const (.ptr 1 0)) (LQ.skip (LQ.const (.ptr 2 0)) (LQ.seq (Par.q intP) (LQ.seq (Par.q intP) (LQ.seq (Par.q intP) (LQ.seq (Par.q intP) (LQ.skip (LQ.const (.own 3)) (LQ.skip (LQ.const (.own 4)) (LQ.seq (LP.q takerL) (LQ.seq (Par.q intP) (LQ.seq (Par.q intP) (LQ.seq (Par.q intP) (LQ.seq (Par.q intP) (LQ.skip (LQ.const (.own 5)) (LQ.skip (LQ.const (.own 6)) (LQ.seq (Par.q powersP) (LQ.seq (Par.q intsP) (LQ.seq (Par.q powersP) (Par.q intsP)))))))))))))))))))) (fun x : Int × Int × Int × Int × Taker × Int × Int × Int × Int × (List Power) × (List Int) × (List Power) × (List Int) => (((⟨x.1, x.2.1, x.2.2.1, x.2.2.2.1, x.2.2.2.2.2.2.2.2.2.1, x.2.2.2.2.2.2.2.2.2.2.1⟩ : Packet), x.2.2.2.2.1, (⟨x.2.2.2.2.2.1, x.2.2.2.2.2.2.1, x.2.2.2.2.2.2.2.1, x.2.2.2.2.2.2.2.2.1, x.2.2.2.2.2.2.2.2.2.2.2.1, x.2.2.2.2.2.2.2.2.2.2.2.2⟩ : Packet)) : Packet × Taker × Packet)) (fun y => (y.1.Kind, y.1.Id, y.1.V, y.1.N, y.2.1, y.2.2.Kind, y.2.2.Id, y.2.2.V, y.2.2.N, y.1.Set, y.1.Done, y.2.2.Set, y.2.2.Done)) (fun _ => rfl)), ⟨[2, 4, 5], [.nilcell 2 4 116 (.powers []), .nilcell 2 5 3 (.ints []), .nilcell 5 4 116 (.powers []), .nilcell 5 5 3 (.ints [])]⟩, [.cells 66 6, .cells 121 2, .cells 66 6, .rows 116, .rows 3, .rows 116, .rows 3]⟩
def zl68a : St → Option LR := L1 85 11 0 zq68a (.exit 0) zq68ae0 (fun s => T_codec_Decode_l1 s.1 s.2.1 s.2.2.1 s.2.2.2)
theorem zk68a : PieceOk (zy68).env 0 (sub zc68 [0, 1, 0, 1, 1, 1]) zl68a :=
  loop1 (A := za68a) zh68 Facts.mix trivial (k := loopB (sub zc68 [0, 1, 0, 1, 1, 1])) (by kernel_rfl) rfl (by rintro ⟨x0, x1, x2, x3⟩; kernel_rfl)
def T_codec_Decode_l2 (x0 : Int) (x1 : Packet) (x2 : Taker) (x3 : Packet) : Tr ((Int × Packet × Taker × Packet) ⊕ (Packet × Taker × Packet)) :=
  (.ite ((decide (x0 > 0)) && (!x2.bad))
    (.guard ((sh_codec_taker_number 1 x2).isSome = true)
    (.guard ((Sl.len (.ints x3.Done) + Sl.len (.ints [((sh_codec_taker_number 1 x2).getD default).1])) * 8 ≤ 140737488355328)
    (.leaf (.inl (IntKind.i64.wrap (x0 - 1), x1, (((sh_codec_taker_number 1 x2).getD default).2), { (x3 : Packet) with Done := x3.Done ++ [((sh_codec_taker_number 1 x2).getD default).1] })))))
    (.leaf (.inr (x1, x2, x3))))
def sh_codec_Decode_l2 (x0 : Int) (x1 : Packet) (x2 : Taker) (x3 : Packet) : Option (Packet × Taker × Packet) := iter (fun s : Int × Packet × Taker × Packet => (T_codec_Decode_l2 s.1 s.2.1 s.2.2.1 s.2.2.2).run) (x0, x1, x2, x3)
def za68b : Ann := ⟨[], [], [], zv68, []⟩
def zq68b : EndD (Int × Packet × Taker × Packet) := ⟨(LQ.map (LQ.skip (LQ.const (.ptr 0 0)) (LQ.skip (LQ.const (.ptr 1 0)) (LQ.skip (LQ.const (.ptr 2 0)) (LQ.seq (Par.q intP) (LQ.seq (Par.q intP) (LQ.seq (Par.q intP) (LQ.seq (Par.q intP) (LQ.seq (Par.q intP) (LQ.skip (LQ.const (.own 3)) (LQ.skip (LQ.const (.own 4)) (LQ.seq (LP.q takerL) (LQ.seq (Par.q intP) (LQ.seq (Par.q intP) (LQ.seq (Par.q intP) (LQ.seq (Par.q intP) (LQ.skip (LQ.const (.own 5)) (LQ.skip (LQ.const (.own 6)) (LQ.seq (Par.q powersP) (LQ.seq (Par.q intsP) (LQ.seq (Par.q powersP) (Par.q intsP))))))))))))))))))))) (fun x : Int × Int × Int × Int × Int × Taker × Int × Int × Int × Int × (List Power) × (List Int) × (List Power) × (List Int) => ((x.1, (⟨x.2.1, x.2.2.1, x.2.2.2.1, x.2.2.2.2.1, x.2.2.2.2.2.2.2.2.2.2.1, x.2.2.2.2.2.2.2.2.2.2.2.1⟩ : Packet), x.2.2.2.2.2.1, (⟨x.2.2.2.2.2.2.1, x.2.2.2.2.2.2.2.1, x.2.2.2.2.2.2.2.2.1, x.2.2.2.2.2.2.2.2.2.1, x.2.2.2.2.2.2.2.2.2.2.2.2.1, x.2.2.2.2.2.2.2.2.2.2.2.2.2⟩ : Packet)) : Int × Packet × Taker × Packet)) (fun y => (y.1, y.2.1.Kind, y.2.1.Id, y.2.1.V, y.2.1.N, y.2.2.1, y.2.2.2.Kind, y.2.2.2.Id, y.2.2.2.V, y.2.2.2.N, y.2.1.Set, y.2.1.Done, y.2.2.2.Set, y.2.2.2.Done)) (fun _ => rfl)), ⟨[2, 4, 5, 8], [.nilcell 2 4 116 (.powers []), .nilcell 2 5 3 (.ints []), .nilcell 5 4 116 (.powers []), .nilcell 5 5 3 (.ints [])]⟩, [.cells 66 6, .cells 121 2, .cells 66 6, .rows 116, .rows 3, .rows 116, .rows 3]⟩
def zq68be0 : EndD (Packet × Taker × Packet) := ⟨(LQ.map (LQ.skip (LQ.const (.ptr 0 0)) (LQ.skip (LQ.const (.ptr 1 0)) (LQ.skip (LQ.const (.ptr 2 0)) (LQ.seq (Par.q intP) (LQ.seq (Par.q intP) (LQ.seq (Par.q intP) (LQ.seq (Par.q intP) (LQ.skip (LQ.const (.own 3)) (LQ.skip (LQ.const (.own 4)) (LQ.seq (LP.q takerL) (LQ.seq (Par.q intP) (LQ.seq (Par.q intP) (LQ.seq (Par.q intP) (LQ.seq (Par.q intP) (LQ.skip (LQ.const (.own 5)) (LQ.skip (LQ.const (.own 6)) (LQ.seq (Par.q powersP) (LQ.seq (Par.q intsP) (LQ.seq (Par.q powersP) (Par.q intsP)))))))))))))))))))) (fun x : Int × Int × Int × Int × Taker × Int × Int × Int × Int × (List Power) × (List Int) × (List Power) × (List Int) => (((⟨x.1, x.2.1, x.2.2.1, x.2.2.2.1, x.2.2.2.2.2.2.2.2.2.1, x.2.2.2.2.2.2.2.2.2.2.1⟩ : Packet), x.2.2.2.2.1, (⟨x.2.2.2.2.2.1, x.2.2.2.2.2.2.1, x.2.2.2.2.2.2.2.1, x.2.2.2.2.2.2.2.2.1, x.2.2.2.2.2.2.2.2.2.2.2.1, x.2.2.2.2.2.2.2.2.2.2.2.2⟩ : Packet)) : Packet × Taker × Packet)) (fun y => (y.1.Kind, y.1.Id, y.1.V, y.1.N, y.2.1, y.2.2.Kind, y.2.2.Id, y.2.2.V, y.2.2.N, y.1.Set, y.1.Done, y.2.2.Set, y.2.2.Done)) (fun _ => rfl)), ⟨[2, 4, 5], [.nilcell 2 4 116 (.powers []), .nilcell 2 5 3 (.ints []), .nilcell 5 4 116 (.powers []), .nilcell 5 5 3 (.ints [])]⟩, [.cells 66 6, .cells 121 2, .cells 66 6, .rows 116, .rows 3, .rows 116, .rows 3]⟩
def zl68b : St → Option LR := L1 85 11 0 zq68b (.exit 2) zq68be0 (fun s => T_codec_Decode_l2 s.1 s.2.1 s.2.2.1 s.2.2.2)
theorem zk68b : PieceOk (zy68).env 0 (sub zc68 [0, 1, 0, 1, 1, 1, 1]) zl68b :=
  loop1 (A := za68b) zh68 Facts.mix trivial (k := loopB (sub zc68 [0, 1, 0, 1, 1, 1, 1])) (by kernel_rfl) rfl (by rintro ⟨x0, x1, x2, x3⟩; kernel_rfl)
def za68 : Ann := ⟨[([0, 1, 0, 1, 1, 1], zl68a), ([0, 1, 0, 1, 1, 1, 1], zl68b)], [], [], zv68, []⟩
def T_codec_Decode (a0 : ByteArray) : Tr (Packet × Int) :=
  (.bind (sh_codec_taker_number 1 (⟨a0, false⟩ : Taker)) fun v1 =>
  (.bind (sh_codec_taker_number 6 v1.2) fun v2 =>
  (.bind (sh_codec_taker_number 1 v2.2) fun v3 =>
  (.bind (sh_codec_taker_number 7 v3.2) fun v4 =>
  (.bind (sh_codec_taker_number 1 v4.2) fun v5 =>
  (.bind (sh_codec_Decode_l1 v5.1 (⟨0, 0, 0, 0, [], []⟩ : Packet) v5.2 (⟨v1.1, v2.1, v3.1, v4.1, [], []⟩ : Packet)) fun v7 =>
  (.bind (sh_codec_taker_number 1 v7.2.1) fun v8 =>
  (.bind (sh_codec_Decode_l2 v8.1 v7.1 v8.2 v7.2.2) fun v9 =>
  (.ite (v9.2.1.bad || (!(v9.2.1.s.toList == (⟨#[]⟩ : ByteArray).toList)))
    (.leaf ((⟨0, 0, 0, 0, [], []⟩ : Packet), 1))
    (.bind (sh_codec_Good v9.2.2) fun v11 =>
    (.ite (v11 != 0)
      (.leaf ((⟨0, 0, 0, 0, [], []⟩ : Packet), v11))
      (.leaf (v9.2.2, 0)))))))))))))
def sh_codec_Decode (a0 : ByteArray) : Option (Packet × Int) := (T_codec_Decode a0).run
def zr68 : LQ (ByteArray) := (Par.q strP)
def qr_codec_Decode : LQ (Packet × Int) := (LQ.seq (Par.q (Par.ofLP packetL)) (Par.q intP))
def F_codec_Decode : SpecT := specF 0 zr68 1 [] (fun s => T_codec_Decode s) default qr_codec_Decode 2 []
theorem ok_codec_Decode : SpecOk Tryz.prog 26 (F_codec_Decode).spec :=
  specF_ok (A := za68) zh68 Facts.mix Tryz.func26 (c := zc68) (by kernel_rfl) (Lc := 0) ⟨zk68a, zk68b, trivial⟩ zr68 1 11 [] (fun s => T_codec_Decode s) default qr_codec_Decode 2 [] [.pubB 2] (by decide) (by kernel_rfl) (by rfl) (by decide) (by decide) (by rfl)
    (by rintro a0; kernel_rfl)

end
end Go.Proofs.YtknbejjfejdppaaGreat.Ab
