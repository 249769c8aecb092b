/-
  The functions, each by its tree.
-/
import Derived.Test.YtmakmlnfbdablaaGreatXAbFun
import Derived.Test.YtmakmlnfbdablaaGreatXAbStructs
import Derived.Test.YtmakmlnfbdablaaGreatXFLine
import Derived.Test.YtmakmlnfbdablaaGreatXFacts
namespace Go.Proofs.YtmakmlnfbdablaaGreat.Ab
open Go Go.RowKit
set_option maxRecDepth 100000
set_option linter.unusedVariables false
set_option linter.unusedSimpArgs false
noncomputable section
noncomputable def zc46 : Code := Tryz.f74.body.getD .skip
def zv46 : List (List Nat) := [[0, 1], [0, 1, 7, 8, 9], [0, 1, 7, 8, 9, 10], [0, 1, 5, 6, 7, 8, 9], [0, 1, 7, 8, 9, 47], [4], [0, 1, 7, 8, 9], [4]]
noncomputable def zy46 : EnvT := ⟨Tryz.prog, zw []⟩
theorem zh46 : (zy46).Ok := ze trivial
def ziq (x0 : (List Power)) (x1 : Int) (x2 : (List Power)) (x3 : Int) (x4 : Int) : Tr (((List Power) × Int × (List Power) × Int × Int) ⊕ ((Bool) ⊕ (Unit))) :=
  (.ite (decide (x4 < x3))
    (.guard ((0 : Int) ≤ x4 ∧ x4 < ((Sl.len (.powers x2) : Nat) : Int))
    (.guard (((decide (x4 > 0)) = true → (((decide (((x2.getD x4.toNat default).V) < 0)) || (decide (((x2.getD x4.toNat default).V) ≥ 6))) = false → ((0 : Int) ≤ (IntKind.i64.wrap (x4 - 1)) ∧ (IntKind.i64.wrap (x4 - 1)) < ((Sl.len (.powers x0) : Nat) : Int)) ∧ True)))
    (.ite (((((decide (((x2.getD x4.toNat default).V) < 0)) || (decide (((x2.getD x4.toNat default).V) ≥ 6))) || ((decide (x4 > 0)) && (decide (((x0.getD ((IntKind.i64.wrap (x4 - 1)).toNat) default).V) ≥ ((x2.getD x4.toNat default).V))))) || (decide (((x2.getD x4.toNat default).N) < x1))) || (decide (((x2.getD x4.toNat default).N) > 1125899906842624)))
      (.leaf (.inr (.inl false)))
      (.leaf (.inl (x0, x1, x2, x3, IntKind.i64.wrap (x4 + 1)))))))
    (.leaf (.inr (.inr ()))))
def zss (x0 : (List Power)) (x1 : Int) (x2 : (List Power)) (x3 : Int) (x4 : Int) : Option ((Bool) ⊕ (Unit)) := zd5 (fun s : (List Power) × Int × (List Power) × Int × Int => (ziq s.1 s.2.1 s.2.2.1 s.2.2.2.1 s.2.2.2.2).run) (x0, x1, x2, x3, x4)
def za4f : Ann := ⟨[], [], [], zv46, []⟩
def za4g : EndD ((List Power) × Int × (List Power) × Int × Int) := ⟨(LQ.seq (Par.q zt) (LQ.seq (Par.q intP) (LQ.seq (Par.q zt) (LQ.seq (Par.q intP) (Par.q intP))))), ⟨[0, 1, 7, 8, 9], [.pub 0, .nilsl 0 (.powers []), .pub 7, .nilsl 7 (.powers [])]⟩, []⟩
def zatg : EndD (Bool) := ⟨(Par.q boolP), ⟨[4], []⟩, []⟩
def zath : EndD (Unit) := ⟨LQ.nil, ⟨[], []⟩, []⟩
def zaxj : St → Option LR := L2 49 3 0 za4g .ret zatg (.exit 0) zath (fun s => ziq s.1 s.2.1 s.2.2.1 s.2.2.2.1 s.2.2.2.2)
theorem za4h : zv (zy46).env 0 (sub zc46 [0, 1, 0, 1]) zaxj :=
  zlc (A := za4f) zh46 Facts.mix trivial (k := zb1 (sub zc46 [0, 1, 0, 1])) (by kernel_rfl) rfl rfl (by rintro ⟨x0, x1, x2, x3, x4⟩; kernel_rfl)
def za46 : Ann := ⟨[([0, 1, 0, 1], zaxj)], [], [], zv46, []⟩
def znt (a0 : (List Power)) (a1 : Int) : Tr (Bool) :=
  (.two (zss a0 a1 a0 ((a0.length : Nat) : Int) 0) (fun v1 =>
    (.leaf v1)) (fun v2 =>
    (.leaf true)))
def zq5 (a0 : (List Power)) (a1 : Int) : Option (Bool) := (znt a0 a1).run
def zr46 : LQ ((List Power) × Int) := (LQ.seq (Par.q zt) (Par.q intP))
def zxo : LQ (Bool) := (Par.q boolP)
def z0a : SpecT := zx 0 zr46 2 [] (fun s => znt s.1 s.2) default zxo 1 []
theorem z64 : zj Tryz.prog 74 (z0a).spec :=
  zf (A := za46) zh46 Facts.mix Tryz.func74 (c := zc46) (by kernel_rfl) (Lc := 0) ⟨za4h, trivial⟩ zr46 2 3 [] (fun s => znt s.1 s.2) default zxo 1 [] [] (by decide) (by kernel_rfl) (by rfl) (by decide) (by decide) (by rfl)
    (by rintro ⟨a0, a1⟩; kernel_rfl)
noncomputable def zc47 : Code := Tryz.f55.body.getD .skip
def zv47 : List (List Nat) := [[1], [1, 5], [2], [1, 14], [2], [1, 23], [2], [1, 47], [2], [1, 76], [2], [1, 82, 83, 84], [1, 82, 83, 84, 85], [1, 3, 4, 82, 83, 84], [1, 82, 83, 84, 108], [2], [1, 82, 83, 84], [2]]
noncomputable def zy47 : EnvT := ⟨Tryz.prog, zw [(74, z0a)]⟩
theorem zh47 : (zy47).Ok := ze ⟨z64, trivial⟩
def zln (x0 : (List Int)) (x1 : Int) (x2 : Int) (x3 : Packet) : Tr (((List Int) × Int × Int × Packet) ⊕ ((Int) ⊕ (Unit))) :=
  (.ite (decide (x2 < x1))
    (.guard ((0 : Int) ≤ x2 ∧ x2 < ((Sl.len (.ints x0) : Nat) : Int))
    (.guard (((decide (x2 > 0)) = true → (((decide ((x0.getD x2.toNat 0) < 0)) || (decide ((x0.getD x2.toNat 0) ≥ 6))) = false → ((0 : Int) ≤ (IntKind.i64.wrap (x2 - 1)) ∧ (IntKind.i64.wrap (x2 - 1)) < ((Sl.len (.ints x3.Done) : Nat) : Int)) ∧ True)))
    (.ite (((decide ((x0.getD x2.toNat 0) < 0)) || (decide ((x0.getD x2.toNat 0) ≥ 6))) || ((decide (x2 > 0)) && (decide ((x3.Done.getD ((IntKind.i64.wrap (x2 - 1)).toNat) 0) ≥ (x0.getD x2.toNat 0)))))
      (.leaf (.inr (.inl 2)))
      (.leaf (.inl (x0, x1, IntKind.i64.wrap (x2 + 1), x3))))))
    (.leaf (.inr (.inr ()))))
def zwi (x0 : (List Int)) (x1 : Int) (x2 : Int) (x3 : Packet) : Option ((Int) ⊕ (Unit)) := zd5 (fun s : (List Int) × Int × Int × Packet => (zln s.1 s.2.1 s.2.2.1 s.2.2.2).run) (x0, x1, x2, x3)
def za4j : Ann := ⟨[], [], [], zv47, []⟩
def za4k : EndD ((List Int) × Int × Int × Packet) := ⟨(LQ.skip (LQ.const (.ptr 0 0)) (LQ.seq (Par.q zhs) (LQ.seq (Par.q intP) (LQ.seq (Par.q intP) (LP.q zmz))))), ⟨[1, 82, 83, 84], [.pub 82, .nilsl 82 (.ints [])]⟩, [.cells 79 6]⟩
def zati : EndD (Int) := ⟨(Par.q intP), ⟨[2], []⟩, []⟩
def zatj : EndD (Unit) := ⟨LQ.nil, ⟨[], []⟩, []⟩
def zaxk : St → Option LR := L2 110 3 0 za4k .ret zati (.exit 1) zatj (fun s => zln s.1 s.2.1 s.2.2.1 s.2.2.2)
theorem za4l : zv (zy47).env 0 (sub zc47 [0, 1, 0, 1, 1]) zaxk :=
  zlc (A := za4j) zh47 Facts.mix trivial (k := zb1 (sub zc47 [0, 1, 0, 1, 1])) (by kernel_rfl) rfl rfl (by rintro ⟨x0, x1, x2, x3⟩; kernel_rfl)
def za47 : Ann := ⟨[([0, 1, 0, 1, 1], zaxk)], [], [], zv47, []⟩
def zst (a0 : Packet) : Tr (Int) :=
  (.ite ((decide (a0.Kind < 1)) || (decide (a0.Kind > 4)))
    (.leaf 3)
    (.ite ((decide (a0.Id < 1)) || (decide (a0.Id > 1099511627776)))
      (.leaf 2)
      (.ite ((decide (a0.Kind ≥ 3)) && ((((decide (a0.V < 0)) || (decide (a0.V ≥ 6))) || (decide (a0.N < 1))) || (decide (a0.N > 1125899906842624))))
        (.leaf 2)
        (.ite (((decide (a0.Kind ≤ 2)) && ((a0.V != 0) || (a0.N != 0))) || ((a0.Kind != 1) && (decide ((IntKind.i64.wrap (((a0.Set.length : Nat) : Int) + ((a0.Done.length : Nat) : Int))) > 0))))
          (.leaf 1)
          (.bind (zq5 a0.Set 0) fun v1 =>
          (.ite (!v1)
            (.leaf 2)
            (.two (zwi a0.Done ((a0.Done.length : Nat) : Int) 0 a0) (fun v2 =>
              (.leaf v2)) (fun v3 =>
              (.leaf 0)))))))))
def zgn (a0 : Packet) : Option (Int) := (zst a0).run
def zr47 : LQ (Packet) := (Par.q (Par.ofLP zmz))
def z2q : LQ (Int) := (Par.q intP)
def zoo : SpecT := zx 0 zr47 1 [] (fun s => zst s) default z2q 1 []
theorem zqe : zj Tryz.prog 55 (zoo).spec :=
  zf (A := za47) zh47 Facts.mix Tryz.func55 (c := zc47) (by kernel_rfl) (Lc := 0) ⟨za4l, trivial⟩ zr47 1 3 [] (fun s => zst s) default z2q 1 [] [] (by decide) (by kernel_rfl) (by rfl) (by decide) (by decide) (by rfl)
    (by rintro a0; kernel_rfl)
noncomputable def zc48 : Code := Tryz.f59.body.getD .skip
def zv48 : List (List Nat) := [[0, 1, 2], [0, 1, 7], [0, 1, 7, 11], [0, 1, 7], [0, 1, 7], [6]]
noncomputable def zy48 : EnvT := ⟨Tryz.prog, zw []⟩
theorem zh48 : (zy48).Ok := ze trivial
def znu (x0 : Int) (x1 : Int) (x2 : (List UInt8)) : Tr ((Int × Int × (List UInt8)) ⊕ ((List UInt8))) :=
  (.ite (decide (x1 ≥ 0))
    (.guard ((0 : Int) ≤ (IntKind.u64.wrap (IntKind.i64.wrap (8 * x1))))
    (.guard (0 ≤ (IntKind.u8.wrap (Int.fdiv x0 (2 ^ (min (IntKind.u64.wrap (IntKind.i64.wrap (8 * x1))).toNat 64)))) ∧ (IntKind.u8.wrap (Int.fdiv x0 (2 ^ (min (IntKind.u64.wrap (IntKind.i64.wrap (8 * x1))).toNat 64)))) < 256)
    (.guard ((Sl.len (.bytes x2) + Sl.len (.bytes [UInt8.ofNat (IntKind.u8.wrap (Int.fdiv x0 (2 ^ (min (IntKind.u64.wrap (IntKind.i64.wrap (8 * x1))).toNat 64)))).toNat])) * 1 ≤ 140737488355328)
    (.leaf (.inl (x0, IntKind.i64.wrap (x1 - 1), x2 ++ [UInt8.ofNat (IntKind.u8.wrap (Int.fdiv x0 (2 ^ (min (IntKind.u64.wrap (IntKind.i64.wrap (8 * x1))).toNat 64)))).toNat]))))))
    (.leaf (.inr x2)))
def zq6 (x0 : Int) (x1 : Int) (x2 : (List UInt8)) : Option ((List UInt8)) := zd5 (fun s : Int × Int × (List UInt8) => (znu s.1 s.2.1 s.2.2).run) (x0, x1, x2)
def za4n : Ann := ⟨[], [], [], zv48, []⟩
def za4o : EndD (Int × Int × (List UInt8)) := ⟨(LQ.skip (LQ.const (.own 0)) (LQ.seq (Par.q intP) (LQ.seq (Par.q intP) (Par.q z16)))), ⟨[0, 1, 7], [.nilown 0 5 (.bytes [])]⟩, [.rows 5]⟩
def zatk : EndD ((List UInt8)) := ⟨(LQ.skip (LQ.const (.own 0)) (Par.q z16)), ⟨[0], [.nilown 0 5 (.bytes [])]⟩, [.rows 5]⟩
def zaxl : St → Option LR := L1 24 5 0 za4o (.exit 0) zatk (fun s => znu s.1 s.2.1 s.2.2)
theorem za4p : zv (zy48).env 0 (sub zc48 [0, 1, 0, 1]) zaxl :=
  zji (A := za4n) zh48 Facts.mix trivial (k := zb1 (sub zc48 [0, 1, 0, 1])) (by kernel_rfl) rfl (by rintro ⟨x0, x1, x2⟩; kernel_rfl)
def za48 : Ann := ⟨[([0, 1, 0, 1], zaxl)], [], [], zv48, []⟩
def zvi (a0 : Int) (a1 : Int) (a2 : (List UInt8)) : Tr ((List UInt8)) :=
  (.bind (zq6 a0 (IntKind.i64.wrap (a1 - 1)) a2) fun v1 =>
  (.leaf v1))
def zr (a0 : Int) (a1 : Int) (a2 : (List UInt8)) : Option ((List UInt8)) := (zvi a0 a1 a2).run
def zr48 : LQ (Int × Int × (List UInt8)) := (LQ.skip (LQ.const (.own 0)) (LQ.seq (Par.q intP) (LQ.seq (Par.q intP) (Par.q z16))))
def z4u : LQ ((List UInt8)) := (LQ.skip (LQ.const (.own 0)) (Par.q z16))
def z65 : SpecT := zx 0 zr48 3 [.rows 5] (fun s => zvi s.1 s.2.1 s.2.2) default z4u 1 [.rows 5]
theorem zadu : zj Tryz.prog 59 (z65).spec :=
  zf (A := za48) zh48 Facts.mix Tryz.func59 (c := zc48) (by kernel_rfl) (Lc := 0) ⟨za4p, trivial⟩ zr48 3 5 [.rows 5] (fun s => zvi s.1 s.2.1 s.2.2) default z4u 1 [.rows 5] [.nilown 6 5 (.bytes [])] (by decide) (by kernel_rfl) (by rfl) (by decide) (by decide) (by rfl)
    (by rintro ⟨a0, a1, a2⟩; kernel_rfl)
noncomputable def zc49 : Code := Tryz.f28.body.getD .skip
def zv49 : List (List Nat) := [[1], [1, 4], [1, 4, 13], [2, 3], [1, 5], [1, 5], [1, 5, 34, 35, 36], [1, 5, 34, 35, 36, 37], [1, 5, 7, 34, 35, 36], [1, 5, 34, 35, 36], [1, 5, 34, 35, 36], [1, 5], [5, 54, 55, 56], [5, 54, 55, 56, 57], [5, 9, 54, 55, 56], [5, 54, 55, 56], [5, 54, 55, 56], [2, 3]]
noncomputable def zy49 : EnvT := ⟨Tryz.prog, zw [(55, zoo), (59, z65)]⟩
theorem zh49 : (zy49).Ok := ze ⟨zqe, zadu, trivial⟩
def zir (x0 : (List Power)) (x1 : Int) (x2 : Int) (x3 : Packet) (x4 : (List UInt8)) : Tr (((List Power) × Int × Int × Packet × (List UInt8)) ⊕ (Packet × (List UInt8))) :=
  (.ite (decide (x2 < x1))
    (.guard ((0 : Int) ≤ x2 ∧ x2 < ((Sl.len (.powers x0) : Nat) : Int))
    (.guard ((zr ((x0.getD x2.toNat default).V) 1 x4).isSome = true)
    (.guard ((zr ((x0.getD x2.toNat default).N) 7 ((zr ((x0.getD x2.toNat default).V) 1 x4).getD default)).isSome = true)
    (.leaf (.inl (x0, x1, IntKind.i64.wrap (x2 + 1), x3, ((zr ((x0.getD x2.toNat default).N) 7 ((zr ((x0.getD x2.toNat default).V) 1 x4).getD default)).getD default)))))))
    (.leaf (.inr (x3, x4))))
def zlo (x0 : (List Power)) (x1 : Int) (x2 : Int) (x3 : Packet) (x4 : (List UInt8)) : Option (Packet × (List UInt8)) := zd5 (fun s : (List Power) × Int × Int × Packet × (List UInt8) => (zir s.1 s.2.1 s.2.2.1 s.2.2.2.1 s.2.2.2.2).run) (x0, x1, x2, x3, x4)
def za4t : Ann := ⟨[], [], [], zv49, []⟩
def za4u : EndD ((List Power) × Int × Int × Packet × (List UInt8)) := ⟨(LQ.skip (LQ.const (.ptr 0 0)) (LQ.skip (LQ.const (.own 1)) (LQ.seq (Par.q zt) (LQ.seq (Par.q intP) (LQ.seq (Par.q intP) (LQ.seq (LP.q zmz) (Par.q z16))))))), ⟨[1, 5, 34, 35, 36], [.nilown 5 5 (.bytes []), .pub 34, .nilsl 34 (.powers [])]⟩, [.cells 79 6, .rows 5]⟩
def zatl : EndD (Packet × (List UInt8)) := ⟨(LQ.skip (LQ.const (.ptr 0 0)) (LQ.skip (LQ.const (.own 1)) (LQ.seq (LP.q zmz) (Par.q z16)))), ⟨[1, 5], [.nilown 5 5 (.bytes [])]⟩, [.cells 79 6, .rows 5]⟩
def zaxn : St → Option LR := L1 66 8 0 za4u (.exit 0) zatl (fun s => zir s.1 s.2.1 s.2.2.1 s.2.2.2.1 s.2.2.2.2)
theorem za4v : zv (zy49).env 0 (sub zc49 [0, 1, 0, 1, 1, 1, 1]) zaxn :=
  zji (A := za4t) zh49 Facts.mix trivial (k := zb1 (sub zc49 [0, 1, 0, 1, 1, 1, 1])) (by kernel_rfl) rfl (by rintro ⟨x0, x1, x2, x3, x4⟩; kernel_rfl)
def zis (x0 : (List Int)) (x1 : Int) (x2 : Int) (x3 : (List UInt8)) : Tr (((List Int) × Int × Int × (List UInt8)) ⊕ ((List UInt8))) :=
  (.ite (decide (x2 < x1))
    (.guard ((0 : Int) ≤ x2 ∧ x2 < ((Sl.len (.ints x0) : Nat) : Int))
    (.bind (zr (x0.getD x2.toNat 0) 1 x3) fun v4 =>
    (.leaf (.inl (x0, x1, IntKind.i64.wrap (x2 + 1), v4)))))
    (.leaf (.inr x3)))
def zlp (x0 : (List Int)) (x1 : Int) (x2 : Int) (x3 : (List UInt8)) : Option ((List UInt8)) := zd5 (fun s : (List Int) × Int × Int × (List UInt8) => (zis s.1 s.2.1 s.2.2.1 s.2.2.2).run) (x0, x1, x2, x3)
def za4w : Ann := ⟨[], [], [], zv49, []⟩
def za4x : EndD ((List Int) × Int × Int × (List UInt8)) := ⟨(LQ.skip (LQ.const (.own 0)) (LQ.seq (Par.q zhs) (LQ.seq (Par.q intP) (LQ.seq (Par.q intP) (Par.q z16))))), ⟨[5, 54, 55, 56], [.nilown 5 5 (.bytes []), .pub 54, .nilsl 54 (.ints [])]⟩, [.rows 5]⟩
def zatm : EndD ((List UInt8)) := ⟨(LQ.skip (LQ.const (.own 0)) (Par.q z16)), ⟨[5], [.nilown 5 5 (.bytes [])]⟩, [.rows 5]⟩
def zaxo : St → Option LR := L1 66 8 0 za4x (.exit 2) zatm (fun s => zis s.1 s.2.1 s.2.2.1 s.2.2.2)
theorem za4y : zv (zy49).env 0 (sub zc49 [0, 1, 0, 1, 1, 1, 1, 1, 1]) zaxo :=
  zji (A := za4w) zh49 Facts.mix trivial (k := zb1 (sub zc49 [0, 1, 0, 1, 1, 1, 1, 1, 1])) (by kernel_rfl) rfl (by rintro ⟨x0, x1, x2, x3⟩; kernel_rfl)
def za49 : Ann := ⟨[([0, 1, 0, 1, 1, 1, 1], zaxn), ([0, 1, 0, 1, 1, 1, 1, 1, 1], zaxo)], [], [], zv49, []⟩
def znv (a0 : Packet) : Tr (ByteArray × Int) :=
  (.bind (zgn a0) fun v1 =>
  (.ite (v1 != 0)
    (.leaf ((⟨#[]⟩ : ByteArray), v1))
    (.guard (0 ≤ (IntKind.u8.wrap a0.Kind) ∧ (IntKind.u8.wrap a0.Kind) < 256)
    (.guard ((zr a0.Id 6 [UInt8.ofNat (IntKind.u8.wrap a0.Kind).toNat]).isSome = true)
    (.guard ((zr a0.V 1 ((zr a0.Id 6 [UInt8.ofNat (IntKind.u8.wrap a0.Kind).toNat]).getD default)).isSome = true)
    (.guard ((zr a0.N 7 ((zr a0.V 1 ((zr a0.Id 6 [UInt8.ofNat (IntKind.u8.wrap a0.Kind).toNat]).getD default)).getD default)).isSome = true)
    (.guard ((zr ((a0.Set.length : Nat) : Int) 1 ((zr a0.N 7 ((zr a0.V 1 ((zr a0.Id 6 [UInt8.ofNat (IntKind.u8.wrap a0.Kind).toNat]).getD default)).getD default)).getD default)).isSome = true)
    (.bind (zlo a0.Set ((a0.Set.length : Nat) : Int) 0 a0 ((zr ((a0.Set.length : Nat) : Int) 1 ((zr a0.N 7 ((zr a0.V 1 ((zr a0.Id 6 [UInt8.ofNat (IntKind.u8.wrap a0.Kind).toNat]).getD default)).getD default)).getD default)).getD default)) fun v2 =>
    (.bind (zr ((v2.1.Done.length : Nat) : Int) 1 v2.2) fun v3 =>
    (.bind (zlp v2.1.Done ((v2.1.Done.length : Nat) : Int) 0 v3) fun v5 =>
    (.leaf ((⟨v5.toArray⟩ : ByteArray), 0))))))))))))
def z5 (a0 : Packet) : Option (ByteArray × Int) := (znv a0).run
def zr49 : LQ (Packet) := (Par.q (Par.ofLP zmz))
def zxp : LQ (ByteArray × Int) := (LQ.seq (Par.q strP) (Par.q intP))
def zjt : SpecT := zx 0 zr49 1 [] (fun s => znv s) default zxp 2 []
theorem zlq : zj Tryz.prog 28 (zjt).spec :=
  zf (A := za49) zh49 Facts.mix Tryz.func28 (c := zc49) (by kernel_rfl) (Lc := 0) ⟨za4v, za4y, trivial⟩ zr49 1 8 [] (fun s => znv s) default zxp 2 [] [] (by decide) (by kernel_rfl) (by rfl) (by decide) (by decide) (by rfl)
    (by rintro a0; kernel_rfl)
noncomputable def zc50 : Code := Tryz.f69.body.getD .skip
def zv50 : List (List Nat) := [[0, 1], [0, 1, 14], [], [4], [0, 1, 5], [0, 1, 5, 27, 28, 29], [0, 1, 5, 27, 28, 29, 30], [0, 1, 5, 7, 27, 28, 29], [0, 1, 5, 27, 28, 29], [0, 1, 5, 27, 28, 29], [5], [4]]
noncomputable def zy50 : EnvT := ⟨Tryz.prog, zw []⟩
theorem zh50 : (zy50).Ok := ze trivial
def zb8 (x0 : Int) (x1 : Int) (x2 : (List UInt8)) (x3 : Int) (x4 : Int) (x5 : zb5) : Tr ((Int × Int × (List UInt8) × Int × Int × zb5) ⊕ (Int × Int × zb5)) :=
  (.ite (decide (x4 < x3))
    (.guard ((0 : Int) ≤ x4 ∧ x4 < ((Sl.len (.bytes x2) : Nat) : Int))
    (.guard ((0 : Int) ≤ 8)
    (.leaf (.inl (x0, IntKind.i64.wrap (((BitVec.ofInt 64 (IntKind.i64.wrap (x1 * 2 ^ 8)) ||| BitVec.ofInt 64 (IntKind.i64.wrap (((x2.getD x4.toNat 0).toNat : Nat) : Int))).toNat : Nat) : Int), x2, x3, IntKind.i64.wrap (x4 + 1), x5)))))
    (.leaf (.inr (x0, x1, x5))))
def zfr (x0 : Int) (x1 : Int) (x2 : (List UInt8)) (x3 : Int) (x4 : Int) (x5 : zb5) : Option (Int × Int × zb5) := zd5 (fun s : Int × Int × (List UInt8) × Int × Int × zb5 => (zb8 s.1 s.2.1 s.2.2.1 s.2.2.2.1 s.2.2.2.2.1 s.2.2.2.2.2).run) (x0, x1, x2, x3, x4, x5)
def za5a : Ann := ⟨[], [], [], zv50, []⟩
def za5b : EndD (Int × Int × (List UInt8) × Int × Int × zb5) := ⟨(LQ.skip (LQ.const (.ptr 0 0)) (LQ.seq (Par.q intP) (LQ.seq (Par.q intP) (LQ.seq (Par.q z16) (LQ.seq (Par.q intP) (LQ.seq (Par.q intP) (LP.q z4f))))))), ⟨[0, 1, 5, 27, 28, 29], [.pub 27, .nilsl 27 (.bytes [])]⟩, [.cells 137 2]⟩
def zatn : EndD (Int × Int × zb5) := ⟨(LQ.skip (LQ.const (.ptr 0 0)) (LQ.seq (Par.q intP) (LQ.seq (Par.q intP) (LP.q z4f)))), ⟨[0, 1, 5], []⟩, [.cells 137 2]⟩
def zaxp : St → Option LR := L1 49 3 1 za5b (.exit 0) zatn (fun s => zb8 s.1 s.2.1 s.2.2.1 s.2.2.2.1 s.2.2.2.2.1 s.2.2.2.2.2)
theorem za5c : zv (zy50).env 1 (sub zc50 [0, 1, 0, 1, 1, 1]) zaxp :=
  zji (A := za5a) zh50 Facts.mix trivial (k := zb1 (sub zc50 [0, 1, 0, 1, 1, 1])) (by kernel_rfl) rfl (by rintro ⟨x0, x1, x2, x3, x4, x5⟩; kernel_rfl)
def za50 : Ann := ⟨[([0, 1, 0, 1, 1, 1], zaxp)], [], [], zv50, []⟩
def zfk (a0 : Int) (a1 : zb5) : Tr (Int × zb5) :=
  (.ite (decide (a0 > ((a1.s.size : Nat) : Int)))
    (.leaf (0, (⟨(⟨#[]⟩ : ByteArray), true⟩ : zb5)))
    (.guard ((0 : Int) ≤ 0 ∧ 0 ≤ (a0 : Int) ∧ a0 ≤ ((a1.s.size : Nat) : Int))
    (.guard ((a1.s.extract 0 a0.toNat).size ≤ 9223372036854775807)
    (.bind (zfr a0 0 ((a1.s.extract 0 a0.toNat).data.toList) ((((a1.s.extract 0 a0.toNat).data.toList).length : Nat) : Int) 0 a1) fun v1 =>
    (.guard ((0 : Int) ≤ v1.1 ∧ v1.1 ≤ (((v1.2.2.s.size : Nat) : Int) : Int) ∧ ((v1.2.2.s.size : Nat) : Int) ≤ ((v1.2.2.s.size : Nat) : Int))
    (.leaf (v1.2.1, (⟨v1.2.2.s.extract v1.1.toNat v1.2.2.s.size, v1.2.2.bad⟩ : zb5))))))))
def zh (a0 : Int) (a1 : zb5) : Option (Int × zb5) := (zfk a0 a1).run
def zr50 : LQ (Int × zb5) := (LQ.skip (LQ.const (.ptr 0 0)) (LQ.seq (Par.q intP) (LP.q z4f)))
def zop : LQ (Int × zb5) := (LQ.seq (Par.q intP) (LP.q z4f))
def zpf : SpecT := zx 1 zr50 2 [.cells 137 2] (fun s => zfk s.1 s.2) default zop 1 [.cells 137 2]
theorem zxq : zj Tryz.prog 69 (zpf).spec :=
  zf (A := za50) zh50 Facts.mix Tryz.func69 (c := zc50) (by kernel_rfl) (Lc := 1) ⟨za5c, trivial⟩ zr50 2 3 [.cells 137 2] (fun s => zfk s.1 s.2) default zop 1 [.cells 137 2] [] (by decide) (by kernel_rfl) (by rfl) (by decide) (by decide) (by rfl)
    (by rintro ⟨a0, a1⟩; kernel_rfl)
noncomputable def zc51 : Code := Tryz.f37.body.getD .skip
def zv51 : List (List Nat) := [[0, 2], [2, 4], [2, 4, 5], [2, 4, 5, 6], [2, 4, 5, 6, 32], [2, 4, 5, 6], [2, 4, 5, 6, 7], [2, 4, 5, 6], [2, 4, 5, 8], [2, 4, 5, 8, 56], [2, 4, 5, 8], [2, 4, 5, 8], [2, 5, 76], [2, 3], [2, 5, 9], [2, 5, 9, 81], [2, 3], [2, 3]]
noncomputable def zy51 : EnvT := ⟨Tryz.prog, zw [(69, zpf), (55, zoo)]⟩
theorem zh51 : (zy51).Ok := ze ⟨zxq, zqe, trivial⟩
def zfs (x0 : Int) (x1 : Packet) (x2 : zb5) (x3 : Packet) : Tr ((Int × Packet × zb5 × Packet) ⊕ (Packet × zb5 × Packet)) :=
  (.ite ((decide (x0 > 0)) && (!x2.bad))
    (.bind (zh 1 x2) fun v6 =>
    (.guard ((zh 7 v6.2).isSome = true)
    (.guard ((Sl.len (.powers x3.Set) + Sl.len (.powers [(⟨v6.1, ((zh 7 v6.2).getD default).1⟩ : Power)])) * 16 ≤ 140737488355328)
    (.leaf (.inl (IntKind.i64.wrap (x0 - 1), x1, (((zh 7 v6.2).getD default).2), { (x3 : Packet) with Set := x3.Set ++ [(⟨v6.1, ((zh 7 v6.2).getD default).1⟩ : Power)] }))))))
    (.leaf (.inr (x1, x2, x3))))
def zbc (x0 : Int) (x1 : Packet) (x2 : zb5) (x3 : Packet) : Option (Packet × zb5 × Packet) := zd5 (fun s : Int × Packet × zb5 × Packet => (zfs s.1 s.2.1 s.2.2.1 s.2.2.2).run) (x0, x1, x2, x3)
def za5g : Ann := ⟨[], [], [], zv51, []⟩
def za5h : EndD (Int × Packet × zb5 × Packet) := ⟨(LQ.map (LQ.skip (LQ.const (.ptr 0 0)) (LQ.skip (LQ.const (.ptr 1 0)) (LQ.skip (LQ.const (.ptr 2 0)) (LQ.seq (Par.q intP) (LQ.seq (Par.q intP) (LQ.seq (Par.q intP) (LQ.seq (Par.q intP) (LQ.seq (Par.q intP) (LQ.skip (LQ.const (.own 3)) (LQ.skip (LQ.const (.own 4)) (LQ.seq (LP.q z4f) (LQ.seq (Par.q intP) (LQ.seq (Par.q intP) (LQ.seq (Par.q intP) (LQ.seq (Par.q intP) (LQ.skip (LQ.const (.own 5)) (LQ.skip (LQ.const (.own 6)) (LQ.seq (Par.q zt) (LQ.seq (Par.q zhs) (LQ.seq (Par.q zt) (Par.q zhs))))))))))))))))))))) (fun x : Int × Int × Int × Int × Int × zb5 × Int × Int × Int × Int × (List Power) × (List Int) × (List Power) × (List Int) => ((x.1, (⟨x.2.1, x.2.2.1, x.2.2.2.1, x.2.2.2.2.1, x.2.2.2.2.2.2.2.2.2.2.1, x.2.2.2.2.2.2.2.2.2.2.2.1⟩ : Packet), x.2.2.2.2.2.1, (⟨x.2.2.2.2.2.2.1, x.2.2.2.2.2.2.2.1, x.2.2.2.2.2.2.2.2.1, x.2.2.2.2.2.2.2.2.2.1, x.2.2.2.2.2.2.2.2.2.2.2.2.1, x.2.2.2.2.2.2.2.2.2.2.2.2.2⟩ : Packet)) : Int × Packet × zb5 × Packet)) (fun y => (y.1, y.2.1.Kind, y.2.1.Id, y.2.1.V, y.2.1.N, y.2.2.1, y.2.2.2.Kind, y.2.2.2.Id, y.2.2.2.V, y.2.2.2.N, y.2.1.Set, y.2.1.Done, y.2.2.2.Set, y.2.2.2.Done)) (fun _ => rfl)), ⟨[2, 4, 5, 6], [.nilcell 2 4 83 (.powers []), .nilcell 2 5 3 (.ints []), .nilcell 5 4 83 (.powers []), .nilcell 5 5 3 (.ints [])]⟩, [.cells 79 6, .cells 137 2, .cells 79 6, .rows 83, .rows 3, .rows 83, .rows 3]⟩
def zato : EndD (Packet × zb5 × Packet) := ⟨(LQ.map (LQ.skip (LQ.const (.ptr 0 0)) (LQ.skip (LQ.const (.ptr 1 0)) (LQ.skip (LQ.const (.ptr 2 0)) (LQ.seq (Par.q intP) (LQ.seq (Par.q intP) (LQ.seq (Par.q intP) (LQ.seq (Par.q intP) (LQ.skip (LQ.const (.own 3)) (LQ.skip (LQ.const (.own 4)) (LQ.seq (LP.q z4f) (LQ.seq (Par.q intP) (LQ.seq (Par.q intP) (LQ.seq (Par.q intP) (LQ.seq (Par.q intP) (LQ.skip (LQ.const (.own 5)) (LQ.skip (LQ.const (.own 6)) (LQ.seq (Par.q zt) (LQ.seq (Par.q zhs) (LQ.seq (Par.q zt) (Par.q zhs)))))))))))))))))))) (fun x : Int × Int × Int × Int × zb5 × Int × Int × Int × Int × (List Power) × (List Int) × (List Power) × (List Int) => (((⟨x.1, x.2.1, x.2.2.1, x.2.2.2.1, x.2.2.2.2.2.2.2.2.2.1, x.2.2.2.2.2.2.2.2.2.2.1⟩ : Packet), x.2.2.2.2.1, (⟨x.2.2.2.2.2.1, x.2.2.2.2.2.2.1, x.2.2.2.2.2.2.2.1, x.2.2.2.2.2.2.2.2.1, x.2.2.2.2.2.2.2.2.2.2.2.1, x.2.2.2.2.2.2.2.2.2.2.2.2⟩ : Packet)) : Packet × zb5 × Packet)) (fun y => (y.1.Kind, y.1.Id, y.1.V, y.1.N, y.2.1, y.2.2.Kind, y.2.2.Id, y.2.2.V, y.2.2.N, y.1.Set, y.1.Done, y.2.2.Set, y.2.2.Done)) (fun _ => rfl)), ⟨[2, 4, 5], [.nilcell 2 4 83 (.powers []), .nilcell 2 5 3 (.ints []), .nilcell 5 4 83 (.powers []), .nilcell 5 5 3 (.ints [])]⟩, [.cells 79 6, .cells 137 2, .cells 79 6, .rows 83, .rows 3, .rows 83, .rows 3]⟩
def zaxr : St → Option LR := L1 85 11 0 za5h (.exit 0) zato (fun s => zfs s.1 s.2.1 s.2.2.1 s.2.2.2)
theorem za5i : zv (zy51).env 0 (sub zc51 [0, 1, 0, 1, 1, 1]) zaxr :=
  zji (A := za5g) zh51 Facts.mix trivial (k := zb1 (sub zc51 [0, 1, 0, 1, 1, 1])) (by kernel_rfl) rfl (by rintro ⟨x0, x1, x2, x3⟩; kernel_rfl)
def zft (x0 : Int) (x1 : Packet) (x2 : zb5) (x3 : Packet) : Tr ((Int × Packet × zb5 × Packet) ⊕ (Packet × zb5 × Packet)) :=
  (.ite ((decide (x0 > 0)) && (!x2.bad))
    (.guard ((zh 1 x2).isSome = true)
    (.guard ((Sl.len (.ints x3.Done) + Sl.len (.ints [((zh 1 x2).getD default).1])) * 8 ≤ 140737488355328)
    (.leaf (.inl (IntKind.i64.wrap (x0 - 1), x1, (((zh 1 x2).getD default).2), { (x3 : Packet) with Done := x3.Done ++ [((zh 1 x2).getD default).1] })))))
    (.leaf (.inr (x1, x2, x3))))
def zbd (x0 : Int) (x1 : Packet) (x2 : zb5) (x3 : Packet) : Option (Packet × zb5 × Packet) := zd5 (fun s : Int × Packet × zb5 × Packet => (zft s.1 s.2.1 s.2.2.1 s.2.2.2).run) (x0, x1, x2, x3)
def za5j : Ann := ⟨[], [], [], zv51, []⟩
def za5k : EndD (Int × Packet × zb5 × Packet) := ⟨(LQ.map (LQ.skip (LQ.const (.ptr 0 0)) (LQ.skip (LQ.const (.ptr 1 0)) (LQ.skip (LQ.const (.ptr 2 0)) (LQ.seq (Par.q intP) (LQ.seq (Par.q intP) (LQ.seq (Par.q intP) (LQ.seq (Par.q intP) (LQ.seq (Par.q intP) (LQ.skip (LQ.const (.own 3)) (LQ.skip (LQ.const (.own 4)) (LQ.seq (LP.q z4f) (LQ.seq (Par.q intP) (LQ.seq (Par.q intP) (LQ.seq (Par.q intP) (LQ.seq (Par.q intP) (LQ.skip (LQ.const (.own 5)) (LQ.skip (LQ.const (.own 6)) (LQ.seq (Par.q zt) (LQ.seq (Par.q zhs) (LQ.seq (Par.q zt) (Par.q zhs))))))))))))))))))))) (fun x : Int × Int × Int × Int × Int × zb5 × Int × Int × Int × Int × (List Power) × (List Int) × (List Power) × (List Int) => ((x.1, (⟨x.2.1, x.2.2.1, x.2.2.2.1, x.2.2.2.2.1, x.2.2.2.2.2.2.2.2.2.2.1, x.2.2.2.2.2.2.2.2.2.2.2.1⟩ : Packet), x.2.2.2.2.2.1, (⟨x.2.2.2.2.2.2.1, x.2.2.2.2.2.2.2.1, x.2.2.2.2.2.2.2.2.1, x.2.2.2.2.2.2.2.2.2.1, x.2.2.2.2.2.2.2.2.2.2.2.2.1, x.2.2.2.2.2.2.2.2.2.2.2.2.2⟩ : Packet)) : Int × Packet × zb5 × Packet)) (fun y => (y.1, y.2.1.Kind, y.2.1.Id, y.2.1.V, y.2.1.N, y.2.2.1, y.2.2.2.Kind, y.2.2.2.Id, y.2.2.2.V, y.2.2.2.N, y.2.1.Set, y.2.1.Done, y.2.2.2.Set, y.2.2.2.Done)) (fun _ => rfl)), ⟨[2, 4, 5, 8], [.nilcell 2 4 83 (.powers []), .nilcell 2 5 3 (.ints []), .nilcell 5 4 83 (.powers []), .nilcell 5 5 3 (.ints [])]⟩, [.cells 79 6, .cells 137 2, .cells 79 6, .rows 83, .rows 3, .rows 83, .rows 3]⟩
def zatp : EndD (Packet × zb5 × Packet) := ⟨(LQ.map (LQ.skip (LQ.const (.ptr 0 0)) (LQ.skip (LQ.const (.ptr 1 0)) (LQ.skip (LQ.const (.ptr 2 0)) (LQ.seq (Par.q intP) (LQ.seq (Par.q intP) (LQ.seq (Par.q intP) (LQ.seq (Par.q intP) (LQ.skip (LQ.const (.own 3)) (LQ.skip (LQ.const (.own 4)) (LQ.seq (LP.q z4f) (LQ.seq (Par.q intP) (LQ.seq (Par.q intP) (LQ.seq (Par.q intP) (LQ.seq (Par.q intP) (LQ.skip (LQ.const (.own 5)) (LQ.skip (LQ.const (.own 6)) (LQ.seq (Par.q zt) (LQ.seq (Par.q zhs) (LQ.seq (Par.q zt) (Par.q zhs)))))))))))))))))))) (fun x : Int × Int × Int × Int × zb5 × Int × Int × Int × Int × (List Power) × (List Int) × (List Power) × (List Int) => (((⟨x.1, x.2.1, x.2.2.1, x.2.2.2.1, x.2.2.2.2.2.2.2.2.2.1, x.2.2.2.2.2.2.2.2.2.2.1⟩ : Packet), x.2.2.2.2.1, (⟨x.2.2.2.2.2.1, x.2.2.2.2.2.2.1, x.2.2.2.2.2.2.2.1, x.2.2.2.2.2.2.2.2.1, x.2.2.2.2.2.2.2.2.2.2.2.1, x.2.2.2.2.2.2.2.2.2.2.2.2⟩ : Packet)) : Packet × zb5 × Packet)) (fun y => (y.1.Kind, y.1.Id, y.1.V, y.1.N, y.2.1, y.2.2.Kind, y.2.2.Id, y.2.2.V, y.2.2.N, y.1.Set, y.1.Done, y.2.2.Set, y.2.2.Done)) (fun _ => rfl)), ⟨[2, 4, 5], [.nilcell 2 4 83 (.powers []), .nilcell 2 5 3 (.ints []), .nilcell 5 4 83 (.powers []), .nilcell 5 5 3 (.ints [])]⟩, [.cells 79 6, .cells 137 2, .cells 79 6, .rows 83, .rows 3, .rows 83, .rows 3]⟩
def zaxs : St → Option LR := L1 85 11 0 za5k (.exit 2) zatp (fun s => zft s.1 s.2.1 s.2.2.1 s.2.2.2)
theorem za5l : zv (zy51).env 0 (sub zc51 [0, 1, 0, 1, 1, 1, 1]) zaxs :=
  zji (A := za5j) zh51 Facts.mix trivial (k := zb1 (sub zc51 [0, 1, 0, 1, 1, 1, 1])) (by kernel_rfl) rfl (by rintro ⟨x0, x1, x2, x3⟩; kernel_rfl)
def za51 : Ann := ⟨[([0, 1, 0, 1, 1, 1], zaxr), ([0, 1, 0, 1, 1, 1, 1], zaxs)], [], [], zv51, []⟩
def znw (a0 : ByteArray) : Tr (Packet × Int) :=
  (.bind (zh 1 (⟨a0, false⟩ : zb5)) fun v1 =>
  (.bind (zh 6 v1.2) fun v2 =>
  (.bind (zh 1 v2.2) fun v3 =>
  (.bind (zh 7 v3.2) fun v4 =>
  (.bind (zh 1 v4.2) fun v5 =>
  (.bind (zbc v5.1 (⟨0, 0, 0, 0, [], []⟩ : Packet) v5.2 (⟨v1.1, v2.1, v3.1, v4.1, [], []⟩ : Packet)) fun v7 =>
  (.bind (zh 1 v7.2.1) fun v8 =>
  (.bind (zbd v8.1 v7.1 v8.2 v7.2.2) fun v9 =>
  (.ite (v9.2.1.bad || (!(v9.2.1.s.toList == (⟨#[]⟩ : ByteArray).toList)))
    (.leaf ((⟨0, 0, 0, 0, [], []⟩ : Packet), 1))
    (.bind (zgn v9.2.2) fun v11 =>
    (.ite (v11 != 0)
      (.leaf ((⟨0, 0, 0, 0, [], []⟩ : Packet), v11))
      (.leaf (v9.2.2, 0)))))))))))))
def zfu (a0 : ByteArray) : Option (Packet × Int) := (znw a0).run
def zr51 : LQ (ByteArray) := (Par.q strP)
def zxr : LQ (Packet × Int) := (LQ.seq (Par.q (Par.ofLP zmz)) (Par.q intP))
def ztp : SpecT := zx 0 zr51 1 [] (fun s => znw s) default zxr 2 []
theorem zxs : zj Tryz.prog 37 (ztp).spec :=
  zf (A := za51) zh51 Facts.mix Tryz.func37 (c := zc51) (by kernel_rfl) (Lc := 0) ⟨za5i, za5l, trivial⟩ zr51 1 11 [] (fun s => znw s) default zxr 2 [] [.pubB 2] (by decide) (by kernel_rfl) (by rfl) (by decide) (by decide) (by rfl)
    (by rintro a0; kernel_rfl)
end
end Go.Proofs.YtmakmlnfbdablaaGreat.Ab
