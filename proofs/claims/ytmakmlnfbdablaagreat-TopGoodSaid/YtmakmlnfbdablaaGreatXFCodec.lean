/-
  The functions, each by its tree.
-/
import Derived.Test.YtmakmlnfbdablaaGreatXAbFun
import Derived.Test.YtmakmlnfbdablaaGreatXAbStructs
import Derived.Test.YtmakmlnfbdablaaGreatXFLine
import Derived.Test.YtmakmlnfbdablaaGreatXFacts
namespace Go.Proofs.YtmakmlnfbdablaaGreat.Ab
open Go Go.RowKit
set_option maxRecDepth 100000
set_option linter.unusedVariables false
set_option linter.unusedSimpArgs false
noncomputable section
noncomputable def zc46 : Code := Tryz.f74.body.getD .skip
def zv46 : List (List Nat) := [[0, 1], [0, 1, 7, 8, 9], [0, 1, 7, 8, 9, 10], [0, 1, 5, 6, 7, 8, 9], [0, 1, 7, 8, 9, 47], [4], [0, 1, 7, 8, 9], [4]]
noncomputable def zy46 : EnvT := ⟨Tryz.prog, zq []⟩
theorem zh46 : (zy46).Ok := zc trivial
def zhk (x0 : (List Power)) (x1 : Int) (x2 : (List Power)) (x3 : Int) (x4 : Int) : Tr (((List Power) × Int × (List Power) × Int × Int) ⊕ ((Bool) ⊕ (Unit))) :=
  (.ite (decide (x4 < x3))
    (.guard ((0 : Int) ≤ x4 ∧ x4 < ((Sl.len (.powers x2) : Nat) : Int))
    (.guard (((decide (x4 > 0)) = true → (((decide (((x2.getD x4.toNat default).V) < 0)) || (decide (((x2.getD x4.toNat default).V) ≥ 6))) = false → ((0 : Int) ≤ (IntKind.i64.wrap (x4 - 1)) ∧ (IntKind.i64.wrap (x4 - 1)) < ((Sl.len (.powers x0) : Nat) : Int)) ∧ True)))
    (.ite (((((decide (((x2.getD x4.toNat default).V) < 0)) || (decide (((x2.getD x4.toNat default).V) ≥ 6))) || ((decide (x4 > 0)) && (decide (((x0.getD ((IntKind.i64.wrap (x4 - 1)).toNat) default).V) ≥ ((x2.getD x4.toNat default).V))))) || (decide (((x2.getD x4.toNat default).N) < x1))) || (decide (((x2.getD x4.toNat default).N) > 1125899906842624)))
      (.leaf (.inr (.inl false)))
      (.leaf (.inl (x0, x1, x2, x3, IntKind.i64.wrap (x4 + 1)))))))
    (.leaf (.inr (.inr ()))))
def zqk (x0 : (List Power)) (x1 : Int) (x2 : (List Power)) (x3 : Int) (x4 : Int) : Option ((Bool) ⊕ (Unit)) := zel (fun s : (List Power) × Int × (List Power) × Int × Int => (zhk s.1 s.2.1 s.2.2.1 s.2.2.2.1 s.2.2.2.2).run) (x0, x1, x2, x3, x4)
def zaxo : Ann := ⟨[], [], [], zv46, []⟩
def zaxp : EndD ((List Power) × Int × (List Power) × Int × Int) := ⟨(LQ.seq (Par.q zo) (LQ.seq (Par.q intP) (LQ.seq (Par.q zo) (LQ.seq (Par.q intP) (Par.q intP))))), ⟨[0, 1, 7, 8, 9], [.pub 0, .nilsl 0 (.powers []), .pub 7, .nilsl 7 (.powers [])]⟩, []⟩
def zao7 : EndD (Bool) := ⟨(Par.q boolP), ⟨[4], []⟩, []⟩
def zao8 : EndD (Unit) := ⟨LQ.nil, ⟨[], []⟩, []⟩
def zas0 : St → Option LR := L2 49 3 0 zaxp .ret zao7 (.exit 0) zao8 (fun s => zhk s.1 s.2.1 s.2.2.1 s.2.2.2.1 s.2.2.2.2)
theorem zaxq : zu (zy46).env 0 (sub zc46 [0, 1, 0, 1]) zas0 :=
  zra (A := zaxo) zh46 Facts.mix trivial (k := zcw (sub zc46 [0, 1, 0, 1])) (by kernel_rfl) rfl rfl (by rintro ⟨x0, x1, x2, x3, x4⟩; kernel_rfl)
def za46 : Ann := ⟨[([0, 1, 0, 1], zas0)], [], [], zv46, []⟩
def zl0 (a0 : (List Power)) (a1 : Int) : Tr (Bool) :=
  (.two (zqk a0 a1 a0 ((a0.length : Nat) : Int) 0) (fun v1 =>
    (.leaf v1)) (fun v2 =>
    (.leaf true)))
def zo7 (a0 : (List Power)) (a1 : Int) : Option (Bool) := (zl0 a0 a1).run
def zr46 : LQ ((List Power) × Int) := (LQ.seq (Par.q zo) (Par.q intP))
def zu3 : LQ (Bool) := (Par.q boolP)
def zxp : SpecT := zt 0 zr46 2 [] (fun s => zl0 s.1 s.2) default zu3 1 []
theorem z4g : zg Tryz.prog 74 (zxp).spec :=
  zd (A := za46) zh46 Facts.mix Tryz.func74 (c := zc46) (by kernel_rfl) (Lc := 0) ⟨zaxq, trivial⟩ zr46 2 3 [] (fun s => zl0 s.1 s.2) default zu3 1 [] [] (by decide) (by kernel_rfl) (by rfl) (by decide) (by decide) (by rfl)
    (by rintro ⟨a0, a1⟩; kernel_rfl)
noncomputable def zc47 : Code := Tryz.f55.body.getD .skip
def zv47 : List (List Nat) := [[1], [1, 5], [2], [1, 14], [2], [1, 23], [2], [1, 47], [2], [1, 76], [2], [1, 82, 83, 84], [1, 82, 83, 84, 85], [1, 3, 4, 82, 83, 84], [1, 82, 83, 84, 108], [2], [1, 82, 83, 84], [2]]
noncomputable def zy47 : EnvT := ⟨Tryz.prog, zq [(74, zxp)]⟩
theorem zh47 : (zy47).Ok := zc ⟨z4g, trivial⟩
def zj5 (x0 : (List Int)) (x1 : Int) (x2 : Int) (x3 : Packet) : Tr (((List Int) × Int × Int × Packet) ⊕ ((Int) ⊕ (Unit))) :=
  (.ite (decide (x2 < x1))
    (.guard ((0 : Int) ≤ x2 ∧ x2 < ((Sl.len (.ints x0) : Nat) : Int))
    (.guard (((decide (x2 > 0)) = true → (((decide ((x0.getD x2.toNat 0) < 0)) || (decide ((x0.getD x2.toNat 0) ≥ 6))) = false → ((0 : Int) ≤ (IntKind.i64.wrap (x2 - 1)) ∧ (IntKind.i64.wrap (x2 - 1)) < ((Sl.len (.ints x3.Done) : Nat) : Int)) ∧ True)))
    (.ite (((decide ((x0.getD x2.toNat 0) < 0)) || (decide ((x0.getD x2.toNat 0) ≥ 6))) || ((decide (x2 > 0)) && (decide ((x3.Done.getD ((IntKind.i64.wrap (x2 - 1)).toNat) 0) ≥ (x0.getD x2.toNat 0)))))
      (.leaf (.inr (.inl 2)))
      (.leaf (.inl (x0, x1, IntKind.i64.wrap (x2 + 1), x3))))))
    (.leaf (.inr (.inr ()))))
def ztv (x0 : (List Int)) (x1 : Int) (x2 : Int) (x3 : Packet) : Option ((Int) ⊕ (Unit)) := zel (fun s : (List Int) × Int × Int × Packet => (zj5 s.1 s.2.1 s.2.2.1 s.2.2.2).run) (x0, x1, x2, x3)
def zaxs : Ann := ⟨[], [], [], zv47, []⟩
def zaxt : EndD ((List Int) × Int × Int × Packet) := ⟨(LQ.skip (LQ.const (.ptr 0 0)) (LQ.seq (Par.q zgz) (LQ.seq (Par.q intP) (LQ.seq (Par.q intP) (LP.q zlb))))), ⟨[1, 82, 83, 84], [.pub 82, .nilsl 82 (.ints [])]⟩, [.cells 79 6]⟩
def zao9 : EndD (Int) := ⟨(Par.q intP), ⟨[2], []⟩, []⟩
def zapa : EndD (Unit) := ⟨LQ.nil, ⟨[], []⟩, []⟩
def zas1 : St → Option LR := L2 110 3 0 zaxt .ret zao9 (.exit 1) zapa (fun s => zj5 s.1 s.2.1 s.2.2.1 s.2.2.2)
theorem zaxu : zu (zy47).env 0 (sub zc47 [0, 1, 0, 1, 1]) zas1 :=
  zra (A := zaxs) zh47 Facts.mix trivial (k := zcw (sub zc47 [0, 1, 0, 1, 1])) (by kernel_rfl) rfl rfl (by rintro ⟨x0, x1, x2, x3⟩; kernel_rfl)
def za47 : Ann := ⟨[([0, 1, 0, 1, 1], zas1)], [], [], zv47, []⟩
def zql (a0 : Packet) : Tr (Int) :=
  (.ite ((decide (a0.Kind < 1)) || (decide (a0.Kind > 4)))
    (.leaf 3)
    (.ite ((decide (a0.Id < 1)) || (decide (a0.Id > 1099511627776)))
      (.leaf 2)
      (.ite ((decide (a0.Kind ≥ 3)) && ((((decide (a0.V < 0)) || (decide (a0.V ≥ 6))) || (decide (a0.N < 1))) || (decide (a0.N > 1125899906842624))))
        (.leaf 2)
        (.ite (((decide (a0.Kind ≤ 2)) && ((a0.V != 0) || (a0.N != 0))) || ((a0.Kind != 1) && (decide ((IntKind.i64.wrap (((a0.Set.length : Nat) : Int) + ((a0.Done.length : Nat) : Int))) > 0))))
          (.leaf 1)
          (.bind (zo7 a0.Set 0) fun v1 =>
          (.ite (!v1)
            (.leaf 2)
            (.two (ztv a0.Done ((a0.Done.length : Nat) : Int) 0 a0) (fun v2 =>
              (.leaf v2)) (fun v3 =>
              (.leaf 0)))))))))
def zfs (a0 : Packet) : Option (Int) := (zql a0).run
def zr47 : LQ (Packet) := (Par.q (Par.ofLP zlb))
def z0a : LQ (Int) := (Par.q intP)
def zms : SpecT := zt 0 zr47 1 [] (fun s => zql s) default z0a 1 []
theorem zog : zg Tryz.prog 55 (zms).spec :=
  zd (A := za47) zh47 Facts.mix Tryz.func55 (c := zc47) (by kernel_rfl) (Lc := 0) ⟨zaxu, trivial⟩ zr47 1 3 [] (fun s => zql s) default z0a 1 [] [] (by decide) (by kernel_rfl) (by rfl) (by decide) (by decide) (by rfl)
    (by rintro a0; kernel_rfl)
noncomputable def zc48 : Code := Tryz.f59.body.getD .skip
def zv48 : List (List Nat) := [[0, 1, 2], [0, 1, 7], [0, 1, 7, 11], [0, 1, 7], [0, 1, 7], [6]]
noncomputable def zy48 : EnvT := ⟨Tryz.prog, zq []⟩
theorem zh48 : (zy48).Ok := zc trivial
def zl1 (x0 : Int) (x1 : Int) (x2 : (List UInt8)) : Tr ((Int × Int × (List UInt8)) ⊕ ((List UInt8))) :=
  (.ite (decide (x1 ≥ 0))
    (.guard ((0 : Int) ≤ (IntKind.u64.wrap (IntKind.i64.wrap (8 * x1))))
    (.guard (0 ≤ (IntKind.u8.wrap (Int.fdiv x0 (2 ^ (min (IntKind.u64.wrap (IntKind.i64.wrap (8 * x1))).toNat 64)))) ∧ (IntKind.u8.wrap (Int.fdiv x0 (2 ^ (min (IntKind.u64.wrap (IntKind.i64.wrap (8 * x1))).toNat 64)))) < 256)
    (.guard ((Sl.len (.bytes x2) + Sl.len (.bytes [UInt8.ofNat (IntKind.u8.wrap (Int.fdiv x0 (2 ^ (min (IntKind.u64.wrap (IntKind.i64.wrap (8 * x1))).toNat 64)))).toNat])) * 1 ≤ 140737488355328)
    (.leaf (.inl (x0, IntKind.i64.wrap (x1 - 1), x2 ++ [UInt8.ofNat (IntKind.u8.wrap (Int.fdiv x0 (2 ^ (min (IntKind.u64.wrap (IntKind.i64.wrap (8 * x1))).toNat 64)))).toNat]))))))
    (.leaf (.inr x2)))
def zo8 (x0 : Int) (x1 : Int) (x2 : (List UInt8)) : Option ((List UInt8)) := zel (fun s : Int × Int × (List UInt8) => (zl1 s.1 s.2.1 s.2.2).run) (x0, x1, x2)
def zaxw : Ann := ⟨[], [], [], zv48, []⟩
def zaxx : EndD (Int × Int × (List UInt8)) := ⟨(LQ.skip (LQ.const (.own 0)) (LQ.seq (Par.q intP) (LQ.seq (Par.q intP) (Par.q zzr)))), ⟨[0, 1, 7], [.nilown 0 5 (.bytes [])]⟩, [.rows 5]⟩
def zapb : EndD ((List UInt8)) := ⟨(LQ.skip (LQ.const (.own 0)) (Par.q zzr)), ⟨[0], [.nilown 0 5 (.bytes [])]⟩, [.rows 5]⟩
def zas2 : St → Option LR := L1 24 5 0 zaxx (.exit 0) zapb (fun s => zl1 s.1 s.2.1 s.2.2)
theorem zaxy : zu (zy48).env 0 (sub zc48 [0, 1, 0, 1]) zas2 :=
  zjd (A := zaxw) zh48 Facts.mix trivial (k := zcw (sub zc48 [0, 1, 0, 1])) (by kernel_rfl) rfl (by rintro ⟨x0, x1, x2⟩; kernel_rfl)
def za48 : Ann := ⟨[([0, 1, 0, 1], zas2)], [], [], zv48, []⟩
def ztd (a0 : Int) (a1 : Int) (a2 : (List UInt8)) : Tr ((List UInt8)) :=
  (.bind (zo8 a0 (IntKind.i64.wrap (a1 - 1)) a2) fun v1 =>
  (.leaf v1))
def zn (a0 : Int) (a1 : Int) (a2 : (List UInt8)) : Option ((List UInt8)) := (ztd a0 a1 a2).run
def zr48 : LQ (Int × Int × (List UInt8)) := (LQ.skip (LQ.const (.own 0)) (LQ.seq (Par.q intP) (LQ.seq (Par.q intP) (Par.q zzr))))
def z18 : LQ ((List UInt8)) := (LQ.skip (LQ.const (.own 0)) (Par.q zzr))
def z4h : SpecT := zt 0 zr48 3 [.rows 5] (fun s => ztd s.1 s.2.1 s.2.2) default z18 1 [.rows 5]
theorem zaap : zg Tryz.prog 59 (z4h).spec :=
  zd (A := za48) zh48 Facts.mix Tryz.func59 (c := zc48) (by kernel_rfl) (Lc := 0) ⟨zaxy, trivial⟩ zr48 3 5 [.rows 5] (fun s => ztd s.1 s.2.1 s.2.2) default z18 1 [.rows 5] [.nilown 6 5 (.bytes [])] (by decide) (by kernel_rfl) (by rfl) (by decide) (by decide) (by rfl)
    (by rintro ⟨a0, a1, a2⟩; kernel_rfl)
noncomputable def zc49 : Code := Tryz.f28.body.getD .skip
def zv49 : List (List Nat) := [[1], [1, 4], [1, 4, 13], [2, 3], [1, 5], [1, 5], [1, 5, 34, 35, 36], [1, 5, 34, 35, 36, 37], [1, 5, 7, 34, 35, 36], [1, 5, 34, 35, 36], [1, 5, 34, 35, 36], [1, 5], [5, 54, 55, 56], [5, 54, 55, 56, 57], [5, 9, 54, 55, 56], [5, 54, 55, 56], [5, 54, 55, 56], [2, 3]]
noncomputable def zy49 : EnvT := ⟨Tryz.prog, zq [(55, zms), (59, z4h)]⟩
theorem zh49 : (zy49).Ok := zc ⟨zog, zaap, trivial⟩
def zhl (x0 : (List Power)) (x1 : Int) (x2 : Int) (x3 : Packet) (x4 : (List UInt8)) : Tr (((List Power) × Int × Int × Packet × (List UInt8)) ⊕ (Packet × (List UInt8))) :=
  (.ite (decide (x2 < x1))
    (.guard ((0 : Int) ≤ x2 ∧ x2 < ((Sl.len (.powers x0) : Nat) : Int))
    (.guard ((zn ((x0.getD x2.toNat default).V) 1 x4).isSome = true)
    (.guard ((zn ((x0.getD x2.toNat default).N) 7 ((zn ((x0.getD x2.toNat default).V) 1 x4).getD default)).isSome = true)
    (.leaf (.inl (x0, x1, IntKind.i64.wrap (x2 + 1), x3, ((zn ((x0.getD x2.toNat default).N) 7 ((zn ((x0.getD x2.toNat default).V) 1 x4).getD default)).getD default)))))))
    (.leaf (.inr (x3, x4))))
def zj6 (x0 : (List Power)) (x1 : Int) (x2 : Int) (x3 : Packet) (x4 : (List UInt8)) : Option (Packet × (List UInt8)) := zel (fun s : (List Power) × Int × Int × Packet × (List UInt8) => (zhl s.1 s.2.1 s.2.2.1 s.2.2.2.1 s.2.2.2.2).run) (x0, x1, x2, x3, x4)
def zax2 : Ann := ⟨[], [], [], zv49, []⟩
def zax3 : EndD ((List Power) × Int × Int × Packet × (List UInt8)) := ⟨(LQ.skip (LQ.const (.ptr 0 0)) (LQ.skip (LQ.const (.own 1)) (LQ.seq (Par.q zo) (LQ.seq (Par.q intP) (LQ.seq (Par.q intP) (LQ.seq (LP.q zlb) (Par.q zzr))))))), ⟨[1, 5, 34, 35, 36], [.nilown 5 5 (.bytes []), .pub 34, .nilsl 34 (.powers [])]⟩, [.cells 79 6, .rows 5]⟩
def zapc : EndD (Packet × (List UInt8)) := ⟨(LQ.skip (LQ.const (.ptr 0 0)) (LQ.skip (LQ.const (.own 1)) (LQ.seq (LP.q zlb) (Par.q zzr)))), ⟨[1, 5], [.nilown 5 5 (.bytes [])]⟩, [.cells 79 6, .rows 5]⟩
def zas4 : St → Option LR := L1 66 8 0 zax3 (.exit 0) zapc (fun s => zhl s.1 s.2.1 s.2.2.1 s.2.2.2.1 s.2.2.2.2)
theorem zax4 : zu (zy49).env 0 (sub zc49 [0, 1, 0, 1, 1, 1, 1]) zas4 :=
  zjd (A := zax2) zh49 Facts.mix trivial (k := zcw (sub zc49 [0, 1, 0, 1, 1, 1, 1])) (by kernel_rfl) rfl (by rintro ⟨x0, x1, x2, x3, x4⟩; kernel_rfl)
def zhm (x0 : (List Int)) (x1 : Int) (x2 : Int) (x3 : (List UInt8)) : Tr (((List Int) × Int × Int × (List UInt8)) ⊕ ((List UInt8))) :=
  (.ite (decide (x2 < x1))
    (.guard ((0 : Int) ≤ x2 ∧ x2 < ((Sl.len (.ints x0) : Nat) : Int))
    (.bind (zn (x0.getD x2.toNat 0) 1 x3) fun v4 =>
    (.leaf (.inl (x0, x1, IntKind.i64.wrap (x2 + 1), v4)))))
    (.leaf (.inr x3)))
def zj7 (x0 : (List Int)) (x1 : Int) (x2 : Int) (x3 : (List UInt8)) : Option ((List UInt8)) := zel (fun s : (List Int) × Int × Int × (List UInt8) => (zhm s.1 s.2.1 s.2.2.1 s.2.2.2).run) (x0, x1, x2, x3)
def zax5 : Ann := ⟨[], [], [], zv49, []⟩
def zax6 : EndD ((List Int) × Int × Int × (List UInt8)) := ⟨(LQ.skip (LQ.const (.own 0)) (LQ.seq (Par.q zgz) (LQ.seq (Par.q intP) (LQ.seq (Par.q intP) (Par.q zzr))))), ⟨[5, 54, 55, 56], [.nilown 5 5 (.bytes []), .pub 54, .nilsl 54 (.ints [])]⟩, [.rows 5]⟩
def zapd : EndD ((List UInt8)) := ⟨(LQ.skip (LQ.const (.own 0)) (Par.q zzr)), ⟨[5], [.nilown 5 5 (.bytes [])]⟩, [.rows 5]⟩
def zas5 : St → Option LR := L1 66 8 0 zax6 (.exit 2) zapd (fun s => zhm s.1 s.2.1 s.2.2.1 s.2.2.2)
theorem zax7 : zu (zy49).env 0 (sub zc49 [0, 1, 0, 1, 1, 1, 1, 1, 1]) zas5 :=
  zjd (A := zax5) zh49 Facts.mix trivial (k := zcw (sub zc49 [0, 1, 0, 1, 1, 1, 1, 1, 1])) (by kernel_rfl) rfl (by rintro ⟨x0, x1, x2, x3⟩; kernel_rfl)
def za49 : Ann := ⟨[([0, 1, 0, 1, 1, 1, 1], zas4), ([0, 1, 0, 1, 1, 1, 1, 1, 1], zas5)], [], [], zv49, []⟩
def zl2 (a0 : Packet) : Tr (ByteArray × Int) :=
  (.bind (zfs a0) fun v1 =>
  (.ite (v1 != 0)
    (.leaf ((⟨#[]⟩ : ByteArray), v1))
    (.guard (0 ≤ (IntKind.u8.wrap a0.Kind) ∧ (IntKind.u8.wrap a0.Kind) < 256)
    (.guard ((zn a0.Id 6 [UInt8.ofNat (IntKind.u8.wrap a0.Kind).toNat]).isSome = true)
    (.guard ((zn a0.V 1 ((zn a0.Id 6 [UInt8.ofNat (IntKind.u8.wrap a0.Kind).toNat]).getD default)).isSome = true)
    (.guard ((zn a0.N 7 ((zn a0.V 1 ((zn a0.Id 6 [UInt8.ofNat (IntKind.u8.wrap a0.Kind).toNat]).getD default)).getD default)).isSome = true)
    (.guard ((zn ((a0.Set.length : Nat) : Int) 1 ((zn a0.N 7 ((zn a0.V 1 ((zn a0.Id 6 [UInt8.ofNat (IntKind.u8.wrap a0.Kind).toNat]).getD default)).getD default)).getD default)).isSome = true)
    (.bind (zj6 a0.Set ((a0.Set.length : Nat) : Int) 0 a0 ((zn ((a0.Set.length : Nat) : Int) 1 ((zn a0.N 7 ((zn a0.V 1 ((zn a0.Id 6 [UInt8.ofNat (IntKind.u8.wrap a0.Kind).toNat]).getD default)).getD default)).getD default)).getD default)) fun v2 =>
    (.bind (zn ((v2.1.Done.length : Nat) : Int) 1 v2.2) fun v3 =>
    (.bind (zj7 v2.1.Done ((v2.1.Done.length : Nat) : Int) 0 v3) fun v5 =>
    (.leaf ((⟨v5.toArray⟩ : ByteArray), 0))))))))))))
def zbi (a0 : Packet) : Option (ByteArray × Int) := (zl2 a0).run
def zr49 : LQ (Packet) := (Par.q (Par.ofLP zlb))
def zu4 : LQ (ByteArray × Int) := (LQ.seq (Par.q strP) (Par.q intP))
def zl3 : SpecT := zt 0 zr49 1 [] (fun s => zl2 s) default zu4 2 []
theorem zo9 : zg Tryz.prog 28 (zl3).spec :=
  zd (A := za49) zh49 Facts.mix Tryz.func28 (c := zc49) (by kernel_rfl) (Lc := 0) ⟨zax4, zax7, trivial⟩ zr49 1 8 [] (fun s => zl2 s) default zu4 2 [] [] (by decide) (by kernel_rfl) (by rfl) (by decide) (by decide) (by rfl)
    (by rintro a0; kernel_rfl)
noncomputable def zc50 : Code := Tryz.f69.body.getD .skip
def zv50 : List (List Nat) := [[0, 1], [0, 1, 14], [], [4], [0, 1, 5], [0, 1, 5, 27, 28, 29], [0, 1, 5, 27, 28, 29, 30], [0, 1, 5, 7, 27, 28, 29], [0, 1, 5, 27, 28, 29], [0, 1, 5, 27, 28, 29], [5], [4]]
noncomputable def zy50 : EnvT := ⟨Tryz.prog, zq []⟩
theorem zh50 : (zy50).Ok := zc trivial
def zbx (x0 : Int) (x1 : Int) (x2 : (List UInt8)) (x3 : Int) (x4 : Int) (x5 : zbt) : Tr ((Int × Int × (List UInt8) × Int × Int × zbt) ⊕ (Int × Int × zbt)) :=
  (.ite (decide (x4 < x3))
    (.guard ((0 : Int) ≤ x4 ∧ x4 < ((Sl.len (.bytes x2) : Nat) : Int))
    (.guard ((0 : Int) ≤ 8)
    (.leaf (.inl (x0, IntKind.i64.wrap (((BitVec.ofInt 64 (IntKind.i64.wrap (x1 * 2 ^ 8)) ||| BitVec.ofInt 64 (IntKind.i64.wrap (((x2.getD x4.toNat 0).toNat : Nat) : Int))).toNat : Nat) : Int), x2, x3, IntKind.i64.wrap (x4 + 1), x5)))))
    (.leaf (.inr (x0, x1, x5))))
def ze1 (x0 : Int) (x1 : Int) (x2 : (List UInt8)) (x3 : Int) (x4 : Int) (x5 : zbt) : Option (Int × Int × zbt) := zel (fun s : Int × Int × (List UInt8) × Int × Int × zbt => (zbx s.1 s.2.1 s.2.2.1 s.2.2.2.1 s.2.2.2.2.1 s.2.2.2.2.2).run) (x0, x1, x2, x3, x4, x5)
def zax9 : Ann := ⟨[], [], [], zv50, []⟩
def zaya : EndD (Int × Int × (List UInt8) × Int × Int × zbt) := ⟨(LQ.skip (LQ.const (.ptr 0 0)) (LQ.seq (Par.q intP) (LQ.seq (Par.q intP) (LQ.seq (Par.q zzr) (LQ.seq (Par.q intP) (LQ.seq (Par.q intP) (LP.q z1t))))))), ⟨[0, 1, 5, 27, 28, 29], [.pub 27, .nilsl 27 (.bytes [])]⟩, [.cells 137 2]⟩
def zape : EndD (Int × Int × zbt) := ⟨(LQ.skip (LQ.const (.ptr 0 0)) (LQ.seq (Par.q intP) (LQ.seq (Par.q intP) (LP.q z1t)))), ⟨[0, 1, 5], []⟩, [.cells 137 2]⟩
def zas6 : St → Option LR := L1 49 3 1 zaya (.exit 0) zape (fun s => zbx s.1 s.2.1 s.2.2.1 s.2.2.2.1 s.2.2.2.2.1 s.2.2.2.2.2)
theorem zayb : zu (zy50).env 1 (sub zc50 [0, 1, 0, 1, 1, 1]) zas6 :=
  zjd (A := zax9) zh50 Facts.mix trivial (k := zcw (sub zc50 [0, 1, 0, 1, 1, 1])) (by kernel_rfl) rfl (by rintro ⟨x0, x1, x2, x3, x4, x5⟩; kernel_rfl)
def za50 : Ann := ⟨[([0, 1, 0, 1, 1, 1], zas6)], [], [], zv50, []⟩
def zev (a0 : Int) (a1 : zbt) : Tr (Int × zbt) :=
  (.ite (decide (a0 > ((a1.s.size : Nat) : Int)))
    (.leaf (0, (⟨(⟨#[]⟩ : ByteArray), true⟩ : zbt)))
    (.guard ((0 : Int) ≤ 0 ∧ 0 ≤ (a0 : Int) ∧ a0 ≤ ((a1.s.size : Nat) : Int))
    (.guard ((a1.s.extract 0 a0.toNat).size ≤ 9223372036854775807)
    (.bind (ze1 a0 0 ((a1.s.extract 0 a0.toNat).data.toList) ((((a1.s.extract 0 a0.toNat).data.toList).length : Nat) : Int) 0 a1) fun v1 =>
    (.guard ((0 : Int) ≤ v1.1 ∧ v1.1 ≤ (((v1.2.2.s.size : Nat) : Int) : Int) ∧ ((v1.2.2.s.size : Nat) : Int) ≤ ((v1.2.2.s.size : Nat) : Int))
    (.leaf (v1.2.1, (⟨v1.2.2.s.extract v1.1.toNat v1.2.2.s.size, v1.2.2.bad⟩ : zbt))))))))
def zf (a0 : Int) (a1 : zbt) : Option (Int × zbt) := (zev a0 a1).run
def zr50 : LQ (Int × zbt) := (LQ.skip (LQ.const (.ptr 0 0)) (LQ.seq (Par.q intP) (LP.q z1t)))
def zmt : LQ (Int × zbt) := (LQ.seq (Par.q intP) (LP.q z1t))
def znk : SpecT := zt 1 zr50 2 [.cells 137 2] (fun s => zev s.1 s.2) default zmt 1 [.cells 137 2]
theorem zu5 : zg Tryz.prog 69 (znk).spec :=
  zd (A := za50) zh50 Facts.mix Tryz.func69 (c := zc50) (by kernel_rfl) (Lc := 1) ⟨zayb, trivial⟩ zr50 2 3 [.cells 137 2] (fun s => zev s.1 s.2) default zmt 1 [.cells 137 2] [] (by decide) (by kernel_rfl) (by rfl) (by decide) (by decide) (by rfl)
    (by rintro ⟨a0, a1⟩; kernel_rfl)
noncomputable def zc51 : Code := Tryz.f37.body.getD .skip
def zv51 : List (List Nat) := [[0, 2], [2, 4], [2, 4, 5], [2, 4, 5, 6], [2, 4, 5, 6, 32], [2, 4, 5, 6], [2, 4, 5, 6, 7], [2, 4, 5, 6], [2, 4, 5, 8], [2, 4, 5, 8, 56], [2, 4, 5, 8], [2, 4, 5, 8], [2, 5, 76], [2, 3], [2, 5, 9], [2, 5, 9, 81], [2, 3], [2, 3]]
noncomputable def zy51 : EnvT := ⟨Tryz.prog, zq [(69, znk), (55, zms)]⟩
theorem zh51 : (zy51).Ok := zc ⟨zu5, zog, trivial⟩
def ze2 (x0 : Int) (x1 : Packet) (x2 : zbt) (x3 : Packet) : Tr ((Int × Packet × zbt × Packet) ⊕ (Packet × zbt × Packet)) :=
  (.ite ((decide (x0 > 0)) && (!x2.bad))
    (.bind (zf 1 x2) fun v6 =>
    (.guard ((zf 7 v6.2).isSome = true)
    (.guard ((Sl.len (.powers x3.Set) + Sl.len (.powers [(⟨v6.1, ((zf 7 v6.2).getD default).1⟩ : Power)])) * 16 ≤ 140737488355328)
    (.leaf (.inl (IntKind.i64.wrap (x0 - 1), x1, (((zf 7 v6.2).getD default).2), { (x3 : Packet) with Set := x3.Set ++ [(⟨v6.1, ((zf 7 v6.2).getD default).1⟩ : Power)] }))))))
    (.leaf (.inr (x1, x2, x3))))
def zar (x0 : Int) (x1 : Packet) (x2 : zbt) (x3 : Packet) : Option (Packet × zbt × Packet) := zel (fun s : Int × Packet × zbt × Packet => (ze2 s.1 s.2.1 s.2.2.1 s.2.2.2).run) (x0, x1, x2, x3)
def zayf : Ann := ⟨[], [], [], zv51, []⟩
def zayg : EndD (Int × Packet × zbt × Packet) := ⟨(LQ.map (LQ.skip (LQ.const (.ptr 0 0)) (LQ.skip (LQ.const (.ptr 1 0)) (LQ.skip (LQ.const (.ptr 2 0)) (LQ.seq (Par.q intP) (LQ.seq (Par.q intP) (LQ.seq (Par.q intP) (LQ.seq (Par.q intP) (LQ.seq (Par.q intP) (LQ.skip (LQ.const (.own 3)) (LQ.skip (LQ.const (.own 4)) (LQ.seq (LP.q z1t) (LQ.seq (Par.q intP) (LQ.seq (Par.q intP) (LQ.seq (Par.q intP) (LQ.seq (Par.q intP) (LQ.skip (LQ.const (.own 5)) (LQ.skip (LQ.const (.own 6)) (LQ.seq (Par.q zo) (LQ.seq (Par.q zgz) (LQ.seq (Par.q zo) (Par.q zgz))))))))))))))))))))) (fun x : Int × Int × Int × Int × Int × zbt × Int × Int × Int × Int × (List Power) × (List Int) × (List Power) × (List Int) => ((x.1, (⟨x.2.1, x.2.2.1, x.2.2.2.1, x.2.2.2.2.1, x.2.2.2.2.2.2.2.2.2.2.1, x.2.2.2.2.2.2.2.2.2.2.2.1⟩ : Packet), x.2.2.2.2.2.1, (⟨x.2.2.2.2.2.2.1, x.2.2.2.2.2.2.2.1, x.2.2.2.2.2.2.2.2.1, x.2.2.2.2.2.2.2.2.2.1, x.2.2.2.2.2.2.2.2.2.2.2.2.1, x.2.2.2.2.2.2.2.2.2.2.2.2.2⟩ : Packet)) : Int × Packet × zbt × Packet)) (fun y => (y.1, y.2.1.Kind, y.2.1.Id, y.2.1.V, y.2.1.N, y.2.2.1, y.2.2.2.Kind, y.2.2.2.Id, y.2.2.2.V, y.2.2.2.N, y.2.1.Set, y.2.1.Done, y.2.2.2.Set, y.2.2.2.Done)) (fun _ => rfl)), ⟨[2, 4, 5, 6], [.nilcell 2 4 83 (.powers []), .nilcell 2 5 3 (.ints []), .nilcell 5 4 83 (.powers []), .nilcell 5 5 3 (.ints [])]⟩, [.cells 79 6, .cells 137 2, .cells 79 6, .rows 83, .rows 3, .rows 83, .rows 3]⟩
def zapf : EndD (Packet × zbt × Packet) := ⟨(LQ.map (LQ.skip (LQ.const (.ptr 0 0)) (LQ.skip (LQ.const (.ptr 1 0)) (LQ.skip (LQ.const (.ptr 2 0)) (LQ.seq (Par.q intP) (LQ.seq (Par.q intP) (LQ.seq (Par.q intP) (LQ.seq (Par.q intP) (LQ.skip (LQ.const (.own 3)) (LQ.skip (LQ.const (.own 4)) (LQ.seq (LP.q z1t) (LQ.seq (Par.q intP) (LQ.seq (Par.q intP) (LQ.seq (Par.q intP) (LQ.seq (Par.q intP) (LQ.skip (LQ.const (.own 5)) (LQ.skip (LQ.const (.own 6)) (LQ.seq (Par.q zo) (LQ.seq (Par.q zgz) (LQ.seq (Par.q zo) (Par.q zgz)))))))))))))))))))) (fun x : Int × Int × Int × Int × zbt × Int × Int × Int × Int × (List Power) × (List Int) × (List Power) × (List Int) => (((⟨x.1, x.2.1, x.2.2.1, x.2.2.2.1, x.2.2.2.2.2.2.2.2.2.1, x.2.2.2.2.2.2.2.2.2.2.1⟩ : Packet), x.2.2.2.2.1, (⟨x.2.2.2.2.2.1, x.2.2.2.2.2.2.1, x.2.2.2.2.2.2.2.1, x.2.2.2.2.2.2.2.2.1, x.2.2.2.2.2.2.2.2.2.2.2.1, x.2.2.2.2.2.2.2.2.2.2.2.2⟩ : Packet)) : Packet × zbt × Packet)) (fun y => (y.1.Kind, y.1.Id, y.1.V, y.1.N, y.2.1, y.2.2.Kind, y.2.2.Id, y.2.2.V, y.2.2.N, y.1.Set, y.1.Done, y.2.2.Set, y.2.2.Done)) (fun _ => rfl)), ⟨[2, 4, 5], [.nilcell 2 4 83 (.powers []), .nilcell 2 5 3 (.ints []), .nilcell 5 4 83 (.powers []), .nilcell 5 5 3 (.ints [])]⟩, [.cells 79 6, .cells 137 2, .cells 79 6, .rows 83, .rows 3, .rows 83, .rows 3]⟩
def zas8 : St → Option LR := L1 85 11 0 zayg (.exit 0) zapf (fun s => ze2 s.1 s.2.1 s.2.2.1 s.2.2.2)
theorem zayh : zu (zy51).env 0 (sub zc51 [0, 1, 0, 1, 1, 1]) zas8 :=
  zjd (A := zayf) zh51 Facts.mix trivial (k := zcw (sub zc51 [0, 1, 0, 1, 1, 1])) (by kernel_rfl) rfl (by rintro ⟨x0, x1, x2, x3⟩; kernel_rfl)
def ze3 (x0 : Int) (x1 : Packet) (x2 : zbt) (x3 : Packet) : Tr ((Int × Packet × zbt × Packet) ⊕ (Packet × zbt × Packet)) :=
  (.ite ((decide (x0 > 0)) && (!x2.bad))
    (.guard ((zf 1 x2).isSome = true)
    (.guard ((Sl.len (.ints x3.Done) + Sl.len (.ints [((zf 1 x2).getD default).1])) * 8 ≤ 140737488355328)
    (.leaf (.inl (IntKind.i64.wrap (x0 - 1), x1, (((zf 1 x2).getD default).2), { (x3 : Packet) with Done := x3.Done ++ [((zf 1 x2).getD default).1] })))))
    (.leaf (.inr (x1, x2, x3))))
def zas (x0 : Int) (x1 : Packet) (x2 : zbt) (x3 : Packet) : Option (Packet × zbt × Packet) := zel (fun s : Int × Packet × zbt × Packet => (ze3 s.1 s.2.1 s.2.2.1 s.2.2.2).run) (x0, x1, x2, x3)
def zayi : Ann := ⟨[], [], [], zv51, []⟩
def zayj : EndD (Int × Packet × zbt × Packet) := ⟨(LQ.map (LQ.skip (LQ.const (.ptr 0 0)) (LQ.skip (LQ.const (.ptr 1 0)) (LQ.skip (LQ.const (.ptr 2 0)) (LQ.seq (Par.q intP) (LQ.seq (Par.q intP) (LQ.seq (Par.q intP) (LQ.seq (Par.q intP) (LQ.seq (Par.q intP) (LQ.skip (LQ.const (.own 3)) (LQ.skip (LQ.const (.own 4)) (LQ.seq (LP.q z1t) (LQ.seq (Par.q intP) (LQ.seq (Par.q intP) (LQ.seq (Par.q intP) (LQ.seq (Par.q intP) (LQ.skip (LQ.const (.own 5)) (LQ.skip (LQ.const (.own 6)) (LQ.seq (Par.q zo) (LQ.seq (Par.q zgz) (LQ.seq (Par.q zo) (Par.q zgz))))))))))))))))))))) (fun x : Int × Int × Int × Int × Int × zbt × Int × Int × Int × Int × (List Power) × (List Int) × (List Power) × (List Int) => ((x.1, (⟨x.2.1, x.2.2.1, x.2.2.2.1, x.2.2.2.2.1, x.2.2.2.2.2.2.2.2.2.2.1, x.2.2.2.2.2.2.2.2.2.2.2.1⟩ : Packet), x.2.2.2.2.2.1, (⟨x.2.2.2.2.2.2.1, x.2.2.2.2.2.2.2.1, x.2.2.2.2.2.2.2.2.1, x.2.2.2.2.2.2.2.2.2.1, x.2.2.2.2.2.2.2.2.2.2.2.2.1, x.2.2.2.2.2.2.2.2.2.2.2.2.2⟩ : Packet)) : Int × Packet × zbt × Packet)) (fun y => (y.1, y.2.1.Kind, y.2.1.Id, y.2.1.V, y.2.1.N, y.2.2.1, y.2.2.2.Kind, y.2.2.2.Id, y.2.2.2.V, y.2.2.2.N, y.2.1.Set, y.2.1.Done, y.2.2.2.Set, y.2.2.2.Done)) (fun _ => rfl)), ⟨[2, 4, 5, 8], [.nilcell 2 4 83 (.powers []), .nilcell 2 5 3 (.ints []), .nilcell 5 4 83 (.powers []), .nilcell 5 5 3 (.ints [])]⟩, [.cells 79 6, .cells 137 2, .cells 79 6, .rows 83, .rows 3, .rows 83, .rows 3]⟩
def zapg : EndD (Packet × zbt × Packet) := ⟨(LQ.map (LQ.skip (LQ.const (.ptr 0 0)) (LQ.skip (LQ.const (.ptr 1 0)) (LQ.skip (LQ.const (.ptr 2 0)) (LQ.seq (Par.q intP) (LQ.seq (Par.q intP) (LQ.seq (Par.q intP) (LQ.seq (Par.q intP) (LQ.skip (LQ.const (.own 3)) (LQ.skip (LQ.const (.own 4)) (LQ.seq (LP.q z1t) (LQ.seq (Par.q intP) (LQ.seq (Par.q intP) (LQ.seq (Par.q intP) (LQ.seq (Par.q intP) (LQ.skip (LQ.const (.own 5)) (LQ.skip (LQ.const (.own 6)) (LQ.seq (Par.q zo) (LQ.seq (Par.q zgz) (LQ.seq (Par.q zo) (Par.q zgz)))))))))))))))))))) (fun x : Int × Int × Int × Int × zbt × Int × Int × Int × Int × (List Power) × (List Int) × (List Power) × (List Int) => (((⟨x.1, x.2.1, x.2.2.1, x.2.2.2.1, x.2.2.2.2.2.2.2.2.2.1, x.2.2.2.2.2.2.2.2.2.2.1⟩ : Packet), x.2.2.2.2.1, (⟨x.2.2.2.2.2.1, x.2.2.2.2.2.2.1, x.2.2.2.2.2.2.2.1, x.2.2.2.2.2.2.2.2.1, x.2.2.2.2.2.2.2.2.2.2.2.1, x.2.2.2.2.2.2.2.2.2.2.2.2⟩ : Packet)) : Packet × zbt × Packet)) (fun y => (y.1.Kind, y.1.Id, y.1.V, y.1.N, y.2.1, y.2.2.Kind, y.2.2.Id, y.2.2.V, y.2.2.N, y.1.Set, y.1.Done, y.2.2.Set, y.2.2.Done)) (fun _ => rfl)), ⟨[2, 4, 5], [.nilcell 2 4 83 (.powers []), .nilcell 2 5 3 (.ints []), .nilcell 5 4 83 (.powers []), .nilcell 5 5 3 (.ints [])]⟩, [.cells 79 6, .cells 137 2, .cells 79 6, .rows 83, .rows 3, .rows 83, .rows 3]⟩
def zas9 : St → Option LR := L1 85 11 0 zayj (.exit 2) zapg (fun s => ze3 s.1 s.2.1 s.2.2.1 s.2.2.2)
theorem zayk : zu (zy51).env 0 (sub zc51 [0, 1, 0, 1, 1, 1, 1]) zas9 :=
  zjd (A := zayi) zh51 Facts.mix trivial (k := zcw (sub zc51 [0, 1, 0, 1, 1, 1, 1])) (by kernel_rfl) rfl (by rintro ⟨x0, x1, x2, x3⟩; kernel_rfl)
def za51 : Ann := ⟨[([0, 1, 0, 1, 1, 1], zas8), ([0, 1, 0, 1, 1, 1, 1], zas9)], [], [], zv51, []⟩
def zl4 (a0 : ByteArray) : Tr (Packet × Int) :=
  (.bind (zf 1 (⟨a0, false⟩ : zbt)) fun v1 =>
  (.bind (zf 6 v1.2) fun v2 =>
  (.bind (zf 1 v2.2) fun v3 =>
  (.bind (zf 7 v3.2) fun v4 =>
  (.bind (zf 1 v4.2) fun v5 =>
  (.bind (zar v5.1 (⟨0, 0, 0, 0, [], []⟩ : Packet) v5.2 (⟨v1.1, v2.1, v3.1, v4.1, [], []⟩ : Packet)) fun v7 =>
  (.bind (zf 1 v7.2.1) fun v8 =>
  (.bind (zas v8.1 v7.1 v8.2 v7.2.2) fun v9 =>
  (.ite (v9.2.1.bad || (!(v9.2.1.s.toList == (⟨#[]⟩ : ByteArray).toList)))
    (.leaf ((⟨0, 0, 0, 0, [], []⟩ : Packet), 1))
    (.bind (zfs v9.2.2) fun v11 =>
    (.ite (v11 != 0)
      (.leaf ((⟨0, 0, 0, 0, [], []⟩ : Packet), v11))
      (.leaf (v9.2.2, 0)))))))))))))
def ze4 (a0 : ByteArray) : Option (Packet × Int) := (zl4 a0).run
def zr51 : LQ (ByteArray) := (Par.q strP)
def zu6 : LQ (Packet × Int) := (LQ.seq (Par.q (Par.ofLP zlb)) (Par.q intP))
def zri : SpecT := zt 0 zr51 1 [] (fun s => zl4 s) default zu6 2 []
theorem zu7 : zg Tryz.prog 37 (zri).spec :=
  zd (A := za51) zh51 Facts.mix Tryz.func37 (c := zc51) (by kernel_rfl) (Lc := 0) ⟨zayh, zayk, trivial⟩ zr51 1 11 [] (fun s => zl4 s) default zu6 2 [] [.pubB 2] (by decide) (by kernel_rfl) (by rfl) (by decide) (by decide) (by rfl)
    (by rintro a0; kernel_rfl)
end
end Go.Proofs.YtmakmlnfbdablaaGreat.Ab
