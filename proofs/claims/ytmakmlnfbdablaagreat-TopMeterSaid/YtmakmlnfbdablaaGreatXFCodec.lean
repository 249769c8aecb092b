/-
  The functions, each by its tree.
-/
import Derived.Test.YtmakmlnfbdablaaGreatXAbFun
import Derived.Test.YtmakmlnfbdablaaGreatXAbStructs
import Derived.Test.YtmakmlnfbdablaaGreatXFLine
import Derived.Test.YtmakmlnfbdablaaGreatXFacts
namespace Go.Proofs.YtmakmlnfbdablaaGreat.Ab
open Go Go.RowKit
set_option maxRecDepth 100000
set_option linter.unusedVariables false
set_option linter.unusedSimpArgs false
noncomputable section
noncomputable def zc46 : Code := Tryz.f74.body.getD .skip
def zv46 : List (List Nat) := [[0, 1], [0, 1, 7, 8, 9], [0, 1, 7, 8, 9, 10], [0, 1, 5, 6, 7, 8, 9], [0, 1, 7, 8, 9, 47], [4], [0, 1, 7, 8, 9], [4]]
noncomputable def zy46 : EnvT := ⟨Tryz.prog, zt []⟩
theorem zh46 : (zy46).Ok := zd trivial
def zhm (x0 : (List Power)) (x1 : Int) (x2 : (List Power)) (x3 : Int) (x4 : Int) : Tr (((List Power) × Int × (List Power) × Int × Int) ⊕ ((Bool) ⊕ (Unit))) :=
  (.ite (decide (x4 < x3))
    (.guard ((0 : Int) ≤ x4 ∧ x4 < ((Sl.len (.powers x2) : Nat) : Int))
    (.guard (((decide (x4 > 0)) = true → (((decide (((x2.getD x4.toNat default).V) < 0)) || (decide (((x2.getD x4.toNat default).V) ≥ 6))) = false → ((0 : Int) ≤ (IntKind.i64.wrap (x4 - 1)) ∧ (IntKind.i64.wrap (x4 - 1)) < ((Sl.len (.powers x0) : Nat) : Int)) ∧ True)))
    (.ite (((((decide (((x2.getD x4.toNat default).V) < 0)) || (decide (((x2.getD x4.toNat default).V) ≥ 6))) || ((decide (x4 > 0)) && (decide (((x0.getD ((IntKind.i64.wrap (x4 - 1)).toNat) default).V) ≥ ((x2.getD x4.toNat default).V))))) || (decide (((x2.getD x4.toNat default).N) < x1))) || (decide (((x2.getD x4.toNat default).N) > 1125899906842624)))
      (.leaf (.inr (.inl false)))
      (.leaf (.inl (x0, x1, x2, x3, IntKind.i64.wrap (x4 + 1)))))))
    (.leaf (.inr (.inr ()))))
def zqj (x0 : (List Power)) (x1 : Int) (x2 : (List Power)) (x3 : Int) (x4 : Int) : Option ((Bool) ⊕ (Unit)) := ze1 (fun s : (List Power) × Int × (List Power) × Int × Int => (zhm s.1 s.2.1 s.2.2.1 s.2.2.2.1 s.2.2.2.2).run) (x0, x1, x2, x3, x4)
def zaxw : Ann := ⟨[], [], [], zv46, []⟩
def zaxx : EndD ((List Power) × Int × (List Power) × Int × Int) := ⟨(LQ.seq (Par.q zp) (LQ.seq (Par.q intP) (LQ.seq (Par.q zp) (LQ.seq (Par.q intP) (Par.q intP))))), ⟨[0, 1, 7, 8, 9], [.pub 0, .nilsl 0 (.powers []), .pub 7, .nilsl 7 (.powers [])]⟩, []⟩
def zapj : EndD (Bool) := ⟨(Par.q boolP), ⟨[4], []⟩, []⟩
def zapk : EndD (Unit) := ⟨LQ.nil, ⟨[], []⟩, []⟩
def zatc : St → Option LR := L2 49 3 0 zaxx .ret zapj (.exit 0) zapk (fun s => zhm s.1 s.2.1 s.2.2.1 s.2.2.2.1 s.2.2.2.2)
theorem zaxy : zv (zy46).env 0 (sub zc46 [0, 1, 0, 1]) zatc :=
  zs3 (A := zaxw) zh46 Facts.mix trivial (k := zdk (sub zc46 [0, 1, 0, 1])) (by kernel_rfl) rfl rfl (by rintro ⟨x0, x1, x2, x3, x4⟩; kernel_rfl)
def za46 : Ann := ⟨[([0, 1, 0, 1], zatc)], [], [], zv46, []⟩
def zl6 (a0 : (List Power)) (a1 : Int) : Tr (Bool) :=
  (.two (zqj a0 a1 a0 ((a0.length : Nat) : Int) 0) (fun v1 =>
    (.leaf v1)) (fun v2 =>
    (.leaf true)))
def zpa (a0 : (List Power)) (a1 : Int) : Option (Bool) := (zl6 a0 a1).run
def zr46 : LQ ((List Power) × Int) := (LQ.seq (Par.q zp) (Par.q intP))
def zu3 : LQ (Bool) := (Par.q boolP)
def zxw : SpecT := zu 0 zr46 2 [] (fun s => zl6 s.1 s.2) default zu3 1 []
theorem z4o : zh Tryz.prog 74 (zxw).spec :=
  ze (A := za46) zh46 Facts.mix Tryz.func74 (c := zc46) (by kernel_rfl) (Lc := 0) ⟨zaxy, trivial⟩ zr46 2 3 [] (fun s => zl6 s.1 s.2) default zu3 1 [] [] (by decide) (by kernel_rfl) (by rfl) (by decide) (by decide) (by rfl)
    (by rintro ⟨a0, a1⟩; kernel_rfl)
noncomputable def zc47 : Code := Tryz.f55.body.getD .skip
def zv47 : List (List Nat) := [[1], [1, 5], [2], [1, 14], [2], [1, 23], [2], [1, 47], [2], [1, 76], [2], [1, 82, 83, 84], [1, 82, 83, 84, 85], [1, 3, 4, 82, 83, 84], [1, 82, 83, 84, 108], [2], [1, 82, 83, 84], [2]]
noncomputable def zy47 : EnvT := ⟨Tryz.prog, zt [(74, zxw)]⟩
theorem zh47 : (zy47).Ok := zd ⟨z4o, trivial⟩
def zka (x0 : (List Int)) (x1 : Int) (x2 : Int) (x3 : Packet) : Tr (((List Int) × Int × Int × Packet) ⊕ ((Int) ⊕ (Unit))) :=
  (.ite (decide (x2 < x1))
    (.guard ((0 : Int) ≤ x2 ∧ x2 < ((Sl.len (.ints x0) : Nat) : Int))
    (.guard (((decide (x2 > 0)) = true → (((decide ((x0.getD x2.toNat 0) < 0)) || (decide ((x0.getD x2.toNat 0) ≥ 6))) = false → ((0 : Int) ≤ (IntKind.i64.wrap (x2 - 1)) ∧ (IntKind.i64.wrap (x2 - 1)) < ((Sl.len (.ints x3.Done) : Nat) : Int)) ∧ True)))
    (.ite (((decide ((x0.getD x2.toNat 0) < 0)) || (decide ((x0.getD x2.toNat 0) ≥ 6))) || ((decide (x2 > 0)) && (decide ((x3.Done.getD ((IntKind.i64.wrap (x2 - 1)).toNat) 0) ≥ (x0.getD x2.toNat 0)))))
      (.leaf (.inr (.inl 2)))
      (.leaf (.inl (x0, x1, IntKind.i64.wrap (x2 + 1), x3))))))
    (.leaf (.inr (.inr ()))))
def ztz (x0 : (List Int)) (x1 : Int) (x2 : Int) (x3 : Packet) : Option ((Int) ⊕ (Unit)) := ze1 (fun s : (List Int) × Int × Int × Packet => (zka s.1 s.2.1 s.2.2.1 s.2.2.2).run) (x0, x1, x2, x3)
def zax0 : Ann := ⟨[], [], [], zv47, []⟩
def zax1 : EndD ((List Int) × Int × Int × Packet) := ⟨(LQ.skip (LQ.const (.ptr 0 0)) (LQ.seq (Par.q zg1) (LQ.seq (Par.q intP) (LQ.seq (Par.q intP) (LP.q zlj))))), ⟨[1, 82, 83, 84], [.pub 82, .nilsl 82 (.ints [])]⟩, [.cells 79 6]⟩
def zapl : EndD (Int) := ⟨(Par.q intP), ⟨[2], []⟩, []⟩
def zapm : EndD (Unit) := ⟨LQ.nil, ⟨[], []⟩, []⟩
def zatd : St → Option LR := L2 110 3 0 zax1 .ret zapl (.exit 1) zapm (fun s => zka s.1 s.2.1 s.2.2.1 s.2.2.2)
theorem zax2 : zv (zy47).env 0 (sub zc47 [0, 1, 0, 1, 1]) zatd :=
  zs3 (A := zax0) zh47 Facts.mix trivial (k := zdk (sub zc47 [0, 1, 0, 1, 1])) (by kernel_rfl) rfl rfl (by rintro ⟨x0, x1, x2, x3⟩; kernel_rfl)
def za47 : Ann := ⟨[([0, 1, 0, 1, 1], zatd)], [], [], zv47, []⟩
def zqk (a0 : Packet) : Tr (Int) :=
  (.ite ((decide (a0.Kind < 1)) || (decide (a0.Kind > 4)))
    (.leaf 3)
    (.ite ((decide (a0.Id < 1)) || (decide (a0.Id > 1099511627776)))
      (.leaf 2)
      (.ite ((decide (a0.Kind ≥ 3)) && ((((decide (a0.V < 0)) || (decide (a0.V ≥ 6))) || (decide (a0.N < 1))) || (decide (a0.N > 1125899906842624))))
        (.leaf 2)
        (.ite (((decide (a0.Kind ≤ 2)) && ((a0.V != 0) || (a0.N != 0))) || ((a0.Kind != 1) && (decide ((IntKind.i64.wrap (((a0.Set.length : Nat) : Int) + ((a0.Done.length : Nat) : Int))) > 0))))
          (.leaf 1)
          (.bind (zpa a0.Set 0) fun v1 =>
          (.ite (!v1)
            (.leaf 2)
            (.two (ztz a0.Done ((a0.Done.length : Nat) : Int) 0 a0) (fun v2 =>
              (.leaf v2)) (fun v3 =>
              (.leaf 0)))))))))
def zf4 (a0 : Packet) : Option (Int) := (zqk a0).run
def zr47 : LQ (Packet) := (Par.q (Par.ofLP zlj))
def z0j : LQ (Int) := (Par.q intP)
def zmx : SpecT := zu 0 zr47 1 [] (fun s => zqk s) default z0j 1 []
theorem zoo : zh Tryz.prog 55 (zmx).spec :=
  ze (A := za47) zh47 Facts.mix Tryz.func55 (c := zc47) (by kernel_rfl) (Lc := 0) ⟨zax2, trivial⟩ zr47 1 3 [] (fun s => zqk s) default z0j 1 [] [] (by decide) (by kernel_rfl) (by rfl) (by decide) (by decide) (by rfl)
    (by rintro a0; kernel_rfl)
noncomputable def zc48 : Code := Tryz.f59.body.getD .skip
def zv48 : List (List Nat) := [[0, 1, 2], [0, 1, 7], [0, 1, 7, 11], [0, 1, 7], [0, 1, 7], [6]]
noncomputable def zy48 : EnvT := ⟨Tryz.prog, zt []⟩
theorem zh48 : (zy48).Ok := zd trivial
def zl7 (x0 : Int) (x1 : Int) (x2 : (List UInt8)) : Tr ((Int × Int × (List UInt8)) ⊕ ((List UInt8))) :=
  (.ite (decide (x1 ≥ 0))
    (.guard ((0 : Int) ≤ (IntKind.u64.wrap (IntKind.i64.wrap (8 * x1))))
    (.guard (0 ≤ (IntKind.u8.wrap (Int.fdiv x0 (2 ^ (min (IntKind.u64.wrap (IntKind.i64.wrap (8 * x1))).toNat 64)))) ∧ (IntKind.u8.wrap (Int.fdiv x0 (2 ^ (min (IntKind.u64.wrap (IntKind.i64.wrap (8 * x1))).toNat 64)))) < 256)
    (.guard ((Sl.len (.bytes x2) + Sl.len (.bytes [UInt8.ofNat (IntKind.u8.wrap (Int.fdiv x0 (2 ^ (min (IntKind.u64.wrap (IntKind.i64.wrap (8 * x1))).toNat 64)))).toNat])) * 1 ≤ 140737488355328)
    (.leaf (.inl (x0, IntKind.i64.wrap (x1 - 1), x2 ++ [UInt8.ofNat (IntKind.u8.wrap (Int.fdiv x0 (2 ^ (min (IntKind.u64.wrap (IntKind.i64.wrap (8 * x1))).toNat 64)))).toNat]))))))
    (.leaf (.inr x2)))
def zpb (x0 : Int) (x1 : Int) (x2 : (List UInt8)) : Option ((List UInt8)) := ze1 (fun s : Int × Int × (List UInt8) => (zl7 s.1 s.2.1 s.2.2).run) (x0, x1, x2)
def zax4 : Ann := ⟨[], [], [], zv48, []⟩
def zax5 : EndD (Int × Int × (List UInt8)) := ⟨(LQ.skip (LQ.const (.own 0)) (LQ.seq (Par.q intP) (LQ.seq (Par.q intP) (Par.q zz1)))), ⟨[0, 1, 7], [.nilown 0 5 (.bytes [])]⟩, [.rows 5]⟩
def zapn : EndD ((List UInt8)) := ⟨(LQ.skip (LQ.const (.own 0)) (Par.q zz1)), ⟨[0], [.nilown 0 5 (.bytes [])]⟩, [.rows 5]⟩
def zate : St → Option LR := L1 24 5 0 zax5 (.exit 0) zapn (fun s => zl7 s.1 s.2.1 s.2.2)
theorem zax6 : zv (zy48).env 0 (sub zc48 [0, 1, 0, 1]) zate :=
  zii (A := zax4) zh48 Facts.mix trivial (k := zdk (sub zc48 [0, 1, 0, 1])) (by kernel_rfl) rfl (by rintro ⟨x0, x1, x2⟩; kernel_rfl)
def za48 : Ann := ⟨[([0, 1, 0, 1], zate)], [], [], zv48, []⟩
def ztc (a0 : Int) (a1 : Int) (a2 : (List UInt8)) : Tr ((List UInt8)) :=
  (.bind (zpb a0 (IntKind.i64.wrap (a1 - 1)) a2) fun v1 =>
  (.leaf v1))
def zo (a0 : Int) (a1 : Int) (a2 : (List UInt8)) : Option ((List UInt8)) := (ztc a0 a1 a2).run
def zr48 : LQ (Int × Int × (List UInt8)) := (LQ.skip (LQ.const (.own 0)) (LQ.seq (Par.q intP) (LQ.seq (Par.q intP) (Par.q zz1))))
def z2g : LQ ((List UInt8)) := (LQ.skip (LQ.const (.own 0)) (Par.q zz1))
def z4p : SpecT := zu 0 zr48 3 [.rows 5] (fun s => ztc s.1 s.2.1 s.2.2) default z2g 1 [.rows 5]
theorem zaax : zh Tryz.prog 59 (z4p).spec :=
  ze (A := za48) zh48 Facts.mix Tryz.func59 (c := zc48) (by kernel_rfl) (Lc := 0) ⟨zax6, trivial⟩ zr48 3 5 [.rows 5] (fun s => ztc s.1 s.2.1 s.2.2) default z2g 1 [.rows 5] [.nilown 6 5 (.bytes [])] (by decide) (by kernel_rfl) (by rfl) (by decide) (by decide) (by rfl)
    (by rintro ⟨a0, a1, a2⟩; kernel_rfl)
noncomputable def zc49 : Code := Tryz.f28.body.getD .skip
def zv49 : List (List Nat) := [[1], [1, 4], [1, 4, 13], [2, 3], [1, 5], [1, 5], [1, 5, 34, 35, 36], [1, 5, 34, 35, 36, 37], [1, 5, 7, 34, 35, 36], [1, 5, 34, 35, 36], [1, 5, 34, 35, 36], [1, 5], [5, 54, 55, 56], [5, 54, 55, 56, 57], [5, 9, 54, 55, 56], [5, 54, 55, 56], [5, 54, 55, 56], [2, 3]]
noncomputable def zy49 : EnvT := ⟨Tryz.prog, zt [(55, zmx), (59, z4p)]⟩
theorem zh49 : (zy49).Ok := zd ⟨zoo, zaax, trivial⟩
def zhn (x0 : (List Power)) (x1 : Int) (x2 : Int) (x3 : Packet) (x4 : (List UInt8)) : Tr (((List Power) × Int × Int × Packet × (List UInt8)) ⊕ (Packet × (List UInt8))) :=
  (.ite (decide (x2 < x1))
    (.guard ((0 : Int) ≤ x2 ∧ x2 < ((Sl.len (.powers x0) : Nat) : Int))
    (.guard ((zo ((x0.getD x2.toNat default).V) 1 x4).isSome = true)
    (.guard ((zo ((x0.getD x2.toNat default).N) 7 ((zo ((x0.getD x2.toNat default).V) 1 x4).getD default)).isSome = true)
    (.leaf (.inl (x0, x1, IntKind.i64.wrap (x2 + 1), x3, ((zo ((x0.getD x2.toNat default).N) 7 ((zo ((x0.getD x2.toNat default).V) 1 x4).getD default)).getD default)))))))
    (.leaf (.inr (x3, x4))))
def zkb (x0 : (List Power)) (x1 : Int) (x2 : Int) (x3 : Packet) (x4 : (List UInt8)) : Option (Packet × (List UInt8)) := ze1 (fun s : (List Power) × Int × Int × Packet × (List UInt8) => (zhn s.1 s.2.1 s.2.2.1 s.2.2.2.1 s.2.2.2.2).run) (x0, x1, x2, x3, x4)
def zaya : Ann := ⟨[], [], [], zv49, []⟩
def zayb : EndD ((List Power) × Int × Int × Packet × (List UInt8)) := ⟨(LQ.skip (LQ.const (.ptr 0 0)) (LQ.skip (LQ.const (.own 1)) (LQ.seq (Par.q zp) (LQ.seq (Par.q intP) (LQ.seq (Par.q intP) (LQ.seq (LP.q zlj) (Par.q zz1))))))), ⟨[1, 5, 34, 35, 36], [.nilown 5 5 (.bytes []), .pub 34, .nilsl 34 (.powers [])]⟩, [.cells 79 6, .rows 5]⟩
def zapo : EndD (Packet × (List UInt8)) := ⟨(LQ.skip (LQ.const (.ptr 0 0)) (LQ.skip (LQ.const (.own 1)) (LQ.seq (LP.q zlj) (Par.q zz1)))), ⟨[1, 5], [.nilown 5 5 (.bytes [])]⟩, [.cells 79 6, .rows 5]⟩
def zatg : St → Option LR := L1 66 8 0 zayb (.exit 0) zapo (fun s => zhn s.1 s.2.1 s.2.2.1 s.2.2.2.1 s.2.2.2.2)
theorem zayc : zv (zy49).env 0 (sub zc49 [0, 1, 0, 1, 1, 1, 1]) zatg :=
  zii (A := zaya) zh49 Facts.mix trivial (k := zdk (sub zc49 [0, 1, 0, 1, 1, 1, 1])) (by kernel_rfl) rfl (by rintro ⟨x0, x1, x2, x3, x4⟩; kernel_rfl)
def zho (x0 : (List Int)) (x1 : Int) (x2 : Int) (x3 : (List UInt8)) : Tr (((List Int) × Int × Int × (List UInt8)) ⊕ ((List UInt8))) :=
  (.ite (decide (x2 < x1))
    (.guard ((0 : Int) ≤ x2 ∧ x2 < ((Sl.len (.ints x0) : Nat) : Int))
    (.bind (zo (x0.getD x2.toNat 0) 1 x3) fun v4 =>
    (.leaf (.inl (x0, x1, IntKind.i64.wrap (x2 + 1), v4)))))
    (.leaf (.inr x3)))
def zkc (x0 : (List Int)) (x1 : Int) (x2 : Int) (x3 : (List UInt8)) : Option ((List UInt8)) := ze1 (fun s : (List Int) × Int × Int × (List UInt8) => (zho s.1 s.2.1 s.2.2.1 s.2.2.2).run) (x0, x1, x2, x3)
def zayd : Ann := ⟨[], [], [], zv49, []⟩
def zaye : EndD ((List Int) × Int × Int × (List UInt8)) := ⟨(LQ.skip (LQ.const (.own 0)) (LQ.seq (Par.q zg1) (LQ.seq (Par.q intP) (LQ.seq (Par.q intP) (Par.q zz1))))), ⟨[5, 54, 55, 56], [.nilown 5 5 (.bytes []), .pub 54, .nilsl 54 (.ints [])]⟩, [.rows 5]⟩
def zapp : EndD ((List UInt8)) := ⟨(LQ.skip (LQ.const (.own 0)) (Par.q zz1)), ⟨[5], [.nilown 5 5 (.bytes [])]⟩, [.rows 5]⟩
def zath : St → Option LR := L1 66 8 0 zaye (.exit 2) zapp (fun s => zho s.1 s.2.1 s.2.2.1 s.2.2.2)
theorem zayf : zv (zy49).env 0 (sub zc49 [0, 1, 0, 1, 1, 1, 1, 1, 1]) zath :=
  zii (A := zayd) zh49 Facts.mix trivial (k := zdk (sub zc49 [0, 1, 0, 1, 1, 1, 1, 1, 1])) (by kernel_rfl) rfl (by rintro ⟨x0, x1, x2, x3⟩; kernel_rfl)
def za49 : Ann := ⟨[([0, 1, 0, 1, 1, 1, 1], zatg), ([0, 1, 0, 1, 1, 1, 1, 1, 1], zath)], [], [], zv49, []⟩
def zl8 (a0 : Packet) : Tr (ByteArray × Int) :=
  (.bind (zf4 a0) fun v1 =>
  (.ite (v1 != 0)
    (.leaf ((⟨#[]⟩ : ByteArray), v1))
    (.guard (0 ≤ (IntKind.u8.wrap a0.Kind) ∧ (IntKind.u8.wrap a0.Kind) < 256)
    (.guard ((zo a0.Id 6 [UInt8.ofNat (IntKind.u8.wrap a0.Kind).toNat]).isSome = true)
    (.guard ((zo a0.V 1 ((zo a0.Id 6 [UInt8.ofNat (IntKind.u8.wrap a0.Kind).toNat]).getD default)).isSome = true)
    (.guard ((zo a0.N 7 ((zo a0.V 1 ((zo a0.Id 6 [UInt8.ofNat (IntKind.u8.wrap a0.Kind).toNat]).getD default)).getD default)).isSome = true)
    (.guard ((zo ((a0.Set.length : Nat) : Int) 1 ((zo a0.N 7 ((zo a0.V 1 ((zo a0.Id 6 [UInt8.ofNat (IntKind.u8.wrap a0.Kind).toNat]).getD default)).getD default)).getD default)).isSome = true)
    (.bind (zkb a0.Set ((a0.Set.length : Nat) : Int) 0 a0 ((zo ((a0.Set.length : Nat) : Int) 1 ((zo a0.N 7 ((zo a0.V 1 ((zo a0.Id 6 [UInt8.ofNat (IntKind.u8.wrap a0.Kind).toNat]).getD default)).getD default)).getD default)).getD default)) fun v2 =>
    (.bind (zo ((v2.1.Done.length : Nat) : Int) 1 v2.2) fun v3 =>
    (.bind (zkc v2.1.Done ((v2.1.Done.length : Nat) : Int) 0 v3) fun v5 =>
    (.leaf ((⟨v5.toArray⟩ : ByteArray), 0))))))))))))
def zbl (a0 : Packet) : Option (ByteArray × Int) := (zl8 a0).run
def zr49 : LQ (Packet) := (Par.q (Par.ofLP zlj))
def zu4 : LQ (ByteArray × Int) := (LQ.seq (Par.q strP) (Par.q intP))
def zl9 : SpecT := zu 0 zr49 1 [] (fun s => zl8 s) default zu4 2 []
theorem zpc : zh Tryz.prog 28 (zl9).spec :=
  ze (A := za49) zh49 Facts.mix Tryz.func28 (c := zc49) (by kernel_rfl) (Lc := 0) ⟨zayc, zayf, trivial⟩ zr49 1 8 [] (fun s => zl8 s) default zu4 2 [] [] (by decide) (by kernel_rfl) (by rfl) (by decide) (by decide) (by rfl)
    (by rintro a0; kernel_rfl)
noncomputable def zc50 : Code := Tryz.f69.body.getD .skip
def zv50 : List (List Nat) := [[0, 1], [0, 1, 14], [], [4], [0, 1, 5], [0, 1, 5, 27, 28, 29], [0, 1, 5, 27, 28, 29, 30], [0, 1, 5, 7, 27, 28, 29], [0, 1, 5, 27, 28, 29], [0, 1, 5, 27, 28, 29], [5], [4]]
noncomputable def zy50 : EnvT := ⟨Tryz.prog, zt []⟩
theorem zh50 : (zy50).Ok := zd trivial
def zb1 (x0 : Int) (x1 : Int) (x2 : (List UInt8)) (x3 : Int) (x4 : Int) (x5 : zby) : Tr ((Int × Int × (List UInt8) × Int × Int × zby) ⊕ (Int × Int × zby)) :=
  (.ite (decide (x4 < x3))
    (.guard ((0 : Int) ≤ x4 ∧ x4 < ((Sl.len (.bytes x2) : Nat) : Int))
    (.guard ((0 : Int) ≤ 8)
    (.leaf (.inl (x0, IntKind.i64.wrap (((BitVec.ofInt 64 (IntKind.i64.wrap (x1 * 2 ^ 8)) ||| BitVec.ofInt 64 (IntKind.i64.wrap (((x2.getD x4.toNat 0).toNat : Nat) : Int))).toNat : Nat) : Int), x2, x3, IntKind.i64.wrap (x4 + 1), x5)))))
    (.leaf (.inr (x0, x1, x5))))
def zfc (x0 : Int) (x1 : Int) (x2 : (List UInt8)) (x3 : Int) (x4 : Int) (x5 : zby) : Option (Int × Int × zby) := ze1 (fun s : Int × Int × (List UInt8) × Int × Int × zby => (zb1 s.1 s.2.1 s.2.2.1 s.2.2.2.1 s.2.2.2.2.1 s.2.2.2.2.2).run) (x0, x1, x2, x3, x4, x5)
def zayh : Ann := ⟨[], [], [], zv50, []⟩
def zayi : EndD (Int × Int × (List UInt8) × Int × Int × zby) := ⟨(LQ.skip (LQ.const (.ptr 0 0)) (LQ.seq (Par.q intP) (LQ.seq (Par.q intP) (LQ.seq (Par.q zz1) (LQ.seq (Par.q intP) (LQ.seq (Par.q intP) (LP.q z11))))))), ⟨[0, 1, 5, 27, 28, 29], [.pub 27, .nilsl 27 (.bytes [])]⟩, [.cells 137 2]⟩
def zapq : EndD (Int × Int × zby) := ⟨(LQ.skip (LQ.const (.ptr 0 0)) (LQ.seq (Par.q intP) (LQ.seq (Par.q intP) (LP.q z11)))), ⟨[0, 1, 5], []⟩, [.cells 137 2]⟩
def zati : St → Option LR := L1 49 3 1 zayi (.exit 0) zapq (fun s => zb1 s.1 s.2.1 s.2.2.1 s.2.2.2.1 s.2.2.2.2.1 s.2.2.2.2.2)
theorem zayj : zv (zy50).env 1 (sub zc50 [0, 1, 0, 1, 1, 1]) zati :=
  zii (A := zayh) zh50 Facts.mix trivial (k := zdk (sub zc50 [0, 1, 0, 1, 1, 1])) (by kernel_rfl) rfl (by rintro ⟨x0, x1, x2, x3, x4, x5⟩; kernel_rfl)
def za50 : Ann := ⟨[([0, 1, 0, 1, 1, 1], zati)], [], [], zv50, []⟩
def ze4 (a0 : Int) (a1 : zby) : Tr (Int × zby) :=
  (.ite (decide (a0 > ((a1.s.size : Nat) : Int)))
    (.leaf (0, (⟨(⟨#[]⟩ : ByteArray), true⟩ : zby)))
    (.guard ((0 : Int) ≤ 0 ∧ 0 ≤ (a0 : Int) ∧ a0 ≤ ((a1.s.size : Nat) : Int))
    (.guard ((a1.s.extract 0 a0.toNat).size ≤ 9223372036854775807)
    (.bind (zfc a0 0 ((a1.s.extract 0 a0.toNat).data.toList) ((((a1.s.extract 0 a0.toNat).data.toList).length : Nat) : Int) 0 a1) fun v1 =>
    (.guard ((0 : Int) ≤ v1.1 ∧ v1.1 ≤ (((v1.2.2.s.size : Nat) : Int) : Int) ∧ ((v1.2.2.s.size : Nat) : Int) ≤ ((v1.2.2.s.size : Nat) : Int))
    (.leaf (v1.2.1, (⟨v1.2.2.s.extract v1.1.toNat v1.2.2.s.size, v1.2.2.bad⟩ : zby))))))))
def zf (a0 : Int) (a1 : zby) : Option (Int × zby) := (ze4 a0 a1).run
def zr50 : LQ (Int × zby) := (LQ.skip (LQ.const (.ptr 0 0)) (LQ.seq (Par.q intP) (LP.q z11)))
def zmy : LQ (Int × zby) := (LQ.seq (Par.q intP) (LP.q z11))
def znp : SpecT := zu 1 zr50 2 [.cells 137 2] (fun s => ze4 s.1 s.2) default zmy 1 [.cells 137 2]
theorem zu5 : zh Tryz.prog 69 (znp).spec :=
  ze (A := za50) zh50 Facts.mix Tryz.func69 (c := zc50) (by kernel_rfl) (Lc := 1) ⟨zayj, trivial⟩ zr50 2 3 [.cells 137 2] (fun s => ze4 s.1 s.2) default zmy 1 [.cells 137 2] [] (by decide) (by kernel_rfl) (by rfl) (by decide) (by decide) (by rfl)
    (by rintro ⟨a0, a1⟩; kernel_rfl)
noncomputable def zc51 : Code := Tryz.f37.body.getD .skip
def zv51 : List (List Nat) := [[0, 2], [2, 4], [2, 4, 5], [2, 4, 5, 6], [2, 4, 5, 6, 32], [2, 4, 5, 6], [2, 4, 5, 6, 7], [2, 4, 5, 6], [2, 4, 5, 8], [2, 4, 5, 8, 56], [2, 4, 5, 8], [2, 4, 5, 8], [2, 5, 76], [2, 3], [2, 5, 9], [2, 5, 9, 81], [2, 3], [2, 3]]
noncomputable def zy51 : EnvT := ⟨Tryz.prog, zt [(69, znp), (55, zmx)]⟩
theorem zh51 : (zy51).Ok := zd ⟨zu5, zoo, trivial⟩
def zfd (x0 : Int) (x1 : Packet) (x2 : zby) (x3 : Packet) : Tr ((Int × Packet × zby × Packet) ⊕ (Packet × zby × Packet)) :=
  (.ite ((decide (x0 > 0)) && (!x2.bad))
    (.bind (zf 1 x2) fun v6 =>
    (.guard ((zf 7 v6.2).isSome = true)
    (.guard ((Sl.len (.powers x3.Set) + Sl.len (.powers [(⟨v6.1, ((zf 7 v6.2).getD default).1⟩ : Power)])) * 16 ≤ 140737488355328)
    (.leaf (.inl (IntKind.i64.wrap (x0 - 1), x1, (((zf 7 v6.2).getD default).2), { (x3 : Packet) with Set := x3.Set ++ [(⟨v6.1, ((zf 7 v6.2).getD default).1⟩ : Power)] }))))))
    (.leaf (.inr (x1, x2, x3))))
def zau (x0 : Int) (x1 : Packet) (x2 : zby) (x3 : Packet) : Option (Packet × zby × Packet) := ze1 (fun s : Int × Packet × zby × Packet => (zfd s.1 s.2.1 s.2.2.1 s.2.2.2).run) (x0, x1, x2, x3)
def zayn : Ann := ⟨[], [], [], zv51, []⟩
def zayo : EndD (Int × Packet × zby × Packet) := ⟨(LQ.map (LQ.skip (LQ.const (.ptr 0 0)) (LQ.skip (LQ.const (.ptr 1 0)) (LQ.skip (LQ.const (.ptr 2 0)) (LQ.seq (Par.q intP) (LQ.seq (Par.q intP) (LQ.seq (Par.q intP) (LQ.seq (Par.q intP) (LQ.seq (Par.q intP) (LQ.skip (LQ.const (.own 3)) (LQ.skip (LQ.const (.own 4)) (LQ.seq (LP.q z11) (LQ.seq (Par.q intP) (LQ.seq (Par.q intP) (LQ.seq (Par.q intP) (LQ.seq (Par.q intP) (LQ.skip (LQ.const (.own 5)) (LQ.skip (LQ.const (.own 6)) (LQ.seq (Par.q zp) (LQ.seq (Par.q zg1) (LQ.seq (Par.q zp) (Par.q zg1))))))))))))))))))))) (fun x : Int × Int × Int × Int × Int × zby × Int × Int × Int × Int × (List Power) × (List Int) × (List Power) × (List Int) => ((x.1, (⟨x.2.1, x.2.2.1, x.2.2.2.1, x.2.2.2.2.1, x.2.2.2.2.2.2.2.2.2.2.1, x.2.2.2.2.2.2.2.2.2.2.2.1⟩ : Packet), x.2.2.2.2.2.1, (⟨x.2.2.2.2.2.2.1, x.2.2.2.2.2.2.2.1, x.2.2.2.2.2.2.2.2.1, x.2.2.2.2.2.2.2.2.2.1, x.2.2.2.2.2.2.2.2.2.2.2.2.1, x.2.2.2.2.2.2.2.2.2.2.2.2.2⟩ : Packet)) : Int × Packet × zby × Packet)) (fun y => (y.1, y.2.1.Kind, y.2.1.Id, y.2.1.V, y.2.1.N, y.2.2.1, y.2.2.2.Kind, y.2.2.2.Id, y.2.2.2.V, y.2.2.2.N, y.2.1.Set, y.2.1.Done, y.2.2.2.Set, y.2.2.2.Done)) (fun _ => rfl)), ⟨[2, 4, 5, 6], [.nilcell 2 4 83 (.powers []), .nilcell 2 5 3 (.ints []), .nilcell 5 4 83 (.powers []), .nilcell 5 5 3 (.ints [])]⟩, [.cells 79 6, .cells 137 2, .cells 79 6, .rows 83, .rows 3, .rows 83, .rows 3]⟩
def zapr : EndD (Packet × zby × Packet) := ⟨(LQ.map (LQ.skip (LQ.const (.ptr 0 0)) (LQ.skip (LQ.const (.ptr 1 0)) (LQ.skip (LQ.const (.ptr 2 0)) (LQ.seq (Par.q intP) (LQ.seq (Par.q intP) (LQ.seq (Par.q intP) (LQ.seq (Par.q intP) (LQ.skip (LQ.const (.own 3)) (LQ.skip (LQ.const (.own 4)) (LQ.seq (LP.q z11) (LQ.seq (Par.q intP) (LQ.seq (Par.q intP) (LQ.seq (Par.q intP) (LQ.seq (Par.q intP) (LQ.skip (LQ.const (.own 5)) (LQ.skip (LQ.const (.own 6)) (LQ.seq (Par.q zp) (LQ.seq (Par.q zg1) (LQ.seq (Par.q zp) (Par.q zg1)))))))))))))))))))) (fun x : Int × Int × Int × Int × zby × Int × Int × Int × Int × (List Power) × (List Int) × (List Power) × (List Int) => (((⟨x.1, x.2.1, x.2.2.1, x.2.2.2.1, x.2.2.2.2.2.2.2.2.2.1, x.2.2.2.2.2.2.2.2.2.2.1⟩ : Packet), x.2.2.2.2.1, (⟨x.2.2.2.2.2.1, x.2.2.2.2.2.2.1, x.2.2.2.2.2.2.2.1, x.2.2.2.2.2.2.2.2.1, x.2.2.2.2.2.2.2.2.2.2.2.1, x.2.2.2.2.2.2.2.2.2.2.2.2⟩ : Packet)) : Packet × zby × Packet)) (fun y => (y.1.Kind, y.1.Id, y.1.V, y.1.N, y.2.1, y.2.2.Kind, y.2.2.Id, y.2.2.V, y.2.2.N, y.1.Set, y.1.Done, y.2.2.Set, y.2.2.Done)) (fun _ => rfl)), ⟨[2, 4, 5], [.nilcell 2 4 83 (.powers []), .nilcell 2 5 3 (.ints []), .nilcell 5 4 83 (.powers []), .nilcell 5 5 3 (.ints [])]⟩, [.cells 79 6, .cells 137 2, .cells 79 6, .rows 83, .rows 3, .rows 83, .rows 3]⟩
def zatk : St → Option LR := L1 85 11 0 zayo (.exit 0) zapr (fun s => zfd s.1 s.2.1 s.2.2.1 s.2.2.2)
theorem zayp : zv (zy51).env 0 (sub zc51 [0, 1, 0, 1, 1, 1]) zatk :=
  zii (A := zayn) zh51 Facts.mix trivial (k := zdk (sub zc51 [0, 1, 0, 1, 1, 1])) (by kernel_rfl) rfl (by rintro ⟨x0, x1, x2, x3⟩; kernel_rfl)
def zfe (x0 : Int) (x1 : Packet) (x2 : zby) (x3 : Packet) : Tr ((Int × Packet × zby × Packet) ⊕ (Packet × zby × Packet)) :=
  (.ite ((decide (x0 > 0)) && (!x2.bad))
    (.guard ((zf 1 x2).isSome = true)
    (.guard ((Sl.len (.ints x3.Done) + Sl.len (.ints [((zf 1 x2).getD default).1])) * 8 ≤ 140737488355328)
    (.leaf (.inl (IntKind.i64.wrap (x0 - 1), x1, (((zf 1 x2).getD default).2), { (x3 : Packet) with Done := x3.Done ++ [((zf 1 x2).getD default).1] })))))
    (.leaf (.inr (x1, x2, x3))))
def zav (x0 : Int) (x1 : Packet) (x2 : zby) (x3 : Packet) : Option (Packet × zby × Packet) := ze1 (fun s : Int × Packet × zby × Packet => (zfe s.1 s.2.1 s.2.2.1 s.2.2.2).run) (x0, x1, x2, x3)
def zayq : Ann := ⟨[], [], [], zv51, []⟩
def zayr : EndD (Int × Packet × zby × Packet) := ⟨(LQ.map (LQ.skip (LQ.const (.ptr 0 0)) (LQ.skip (LQ.const (.ptr 1 0)) (LQ.skip (LQ.const (.ptr 2 0)) (LQ.seq (Par.q intP) (LQ.seq (Par.q intP) (LQ.seq (Par.q intP) (LQ.seq (Par.q intP) (LQ.seq (Par.q intP) (LQ.skip (LQ.const (.own 3)) (LQ.skip (LQ.const (.own 4)) (LQ.seq (LP.q z11) (LQ.seq (Par.q intP) (LQ.seq (Par.q intP) (LQ.seq (Par.q intP) (LQ.seq (Par.q intP) (LQ.skip (LQ.const (.own 5)) (LQ.skip (LQ.const (.own 6)) (LQ.seq (Par.q zp) (LQ.seq (Par.q zg1) (LQ.seq (Par.q zp) (Par.q zg1))))))))))))))))))))) (fun x : Int × Int × Int × Int × Int × zby × Int × Int × Int × Int × (List Power) × (List Int) × (List Power) × (List Int) => ((x.1, (⟨x.2.1, x.2.2.1, x.2.2.2.1, x.2.2.2.2.1, x.2.2.2.2.2.2.2.2.2.2.1, x.2.2.2.2.2.2.2.2.2.2.2.1⟩ : Packet), x.2.2.2.2.2.1, (⟨x.2.2.2.2.2.2.1, x.2.2.2.2.2.2.2.1, x.2.2.2.2.2.2.2.2.1, x.2.2.2.2.2.2.2.2.2.1, x.2.2.2.2.2.2.2.2.2.2.2.2.1, x.2.2.2.2.2.2.2.2.2.2.2.2.2⟩ : Packet)) : Int × Packet × zby × Packet)) (fun y => (y.1, y.2.1.Kind, y.2.1.Id, y.2.1.V, y.2.1.N, y.2.2.1, y.2.2.2.Kind, y.2.2.2.Id, y.2.2.2.V, y.2.2.2.N, y.2.1.Set, y.2.1.Done, y.2.2.2.Set, y.2.2.2.Done)) (fun _ => rfl)), ⟨[2, 4, 5, 8], [.nilcell 2 4 83 (.powers []), .nilcell 2 5 3 (.ints []), .nilcell 5 4 83 (.powers []), .nilcell 5 5 3 (.ints [])]⟩, [.cells 79 6, .cells 137 2, .cells 79 6, .rows 83, .rows 3, .rows 83, .rows 3]⟩
def zaps : EndD (Packet × zby × Packet) := ⟨(LQ.map (LQ.skip (LQ.const (.ptr 0 0)) (LQ.skip (LQ.const (.ptr 1 0)) (LQ.skip (LQ.const (.ptr 2 0)) (LQ.seq (Par.q intP) (LQ.seq (Par.q intP) (LQ.seq (Par.q intP) (LQ.seq (Par.q intP) (LQ.skip (LQ.const (.own 3)) (LQ.skip (LQ.const (.own 4)) (LQ.seq (LP.q z11) (LQ.seq (Par.q intP) (LQ.seq (Par.q intP) (LQ.seq (Par.q intP) (LQ.seq (Par.q intP) (LQ.skip (LQ.const (.own 5)) (LQ.skip (LQ.const (.own 6)) (LQ.seq (Par.q zp) (LQ.seq (Par.q zg1) (LQ.seq (Par.q zp) (Par.q zg1)))))))))))))))))))) (fun x : Int × Int × Int × Int × zby × Int × Int × Int × Int × (List Power) × (List Int) × (List Power) × (List Int) => (((⟨x.1, x.2.1, x.2.2.1, x.2.2.2.1, x.2.2.2.2.2.2.2.2.2.1, x.2.2.2.2.2.2.2.2.2.2.1⟩ : Packet), x.2.2.2.2.1, (⟨x.2.2.2.2.2.1, x.2.2.2.2.2.2.1, x.2.2.2.2.2.2.2.1, x.2.2.2.2.2.2.2.2.1, x.2.2.2.2.2.2.2.2.2.2.2.1, x.2.2.2.2.2.2.2.2.2.2.2.2⟩ : Packet)) : Packet × zby × Packet)) (fun y => (y.1.Kind, y.1.Id, y.1.V, y.1.N, y.2.1, y.2.2.Kind, y.2.2.Id, y.2.2.V, y.2.2.N, y.1.Set, y.1.Done, y.2.2.Set, y.2.2.Done)) (fun _ => rfl)), ⟨[2, 4, 5], [.nilcell 2 4 83 (.powers []), .nilcell 2 5 3 (.ints []), .nilcell 5 4 83 (.powers []), .nilcell 5 5 3 (.ints [])]⟩, [.cells 79 6, .cells 137 2, .cells 79 6, .rows 83, .rows 3, .rows 83, .rows 3]⟩
def zatl : St → Option LR := L1 85 11 0 zayr (.exit 2) zaps (fun s => zfe s.1 s.2.1 s.2.2.1 s.2.2.2)
theorem zays : zv (zy51).env 0 (sub zc51 [0, 1, 0, 1, 1, 1, 1]) zatl :=
  zii (A := zayq) zh51 Facts.mix trivial (k := zdk (sub zc51 [0, 1, 0, 1, 1, 1, 1])) (by kernel_rfl) rfl (by rintro ⟨x0, x1, x2, x3⟩; kernel_rfl)
def za51 : Ann := ⟨[([0, 1, 0, 1, 1, 1], zatk), ([0, 1, 0, 1, 1, 1, 1], zatl)], [], [], zv51, []⟩
def zma (a0 : ByteArray) : Tr (Packet × Int) :=
  (.bind (zf 1 (⟨a0, false⟩ : zby)) fun v1 =>
  (.bind (zf 6 v1.2) fun v2 =>
  (.bind (zf 1 v2.2) fun v3 =>
  (.bind (zf 7 v3.2) fun v4 =>
  (.bind (zf 1 v4.2) fun v5 =>
  (.bind (zau v5.1 (⟨0, 0, 0, 0, [], []⟩ : Packet) v5.2 (⟨v1.1, v2.1, v3.1, v4.1, [], []⟩ : Packet)) fun v7 =>
  (.bind (zf 1 v7.2.1) fun v8 =>
  (.bind (zav v8.1 v7.1 v8.2 v7.2.2) fun v9 =>
  (.ite (v9.2.1.bad || (!(v9.2.1.s.toList == (⟨#[]⟩ : ByteArray).toList)))
    (.leaf ((⟨0, 0, 0, 0, [], []⟩ : Packet), 1))
    (.bind (zf4 v9.2.2) fun v11 =>
    (.ite (v11 != 0)
      (.leaf ((⟨0, 0, 0, 0, [], []⟩ : Packet), v11))
      (.leaf (v9.2.2, 0)))))))))))))
def zff (a0 : ByteArray) : Option (Packet × Int) := (zma a0).run
def zr51 : LQ (ByteArray) := (Par.q strP)
def zu6 : LQ (Packet × Int) := (LQ.seq (Par.q (Par.ofLP zlj)) (Par.q intP))
def zrg : SpecT := zu 0 zr51 1 [] (fun s => zma s) default zu6 2 []
theorem zu7 : zh Tryz.prog 37 (zrg).spec :=
  ze (A := za51) zh51 Facts.mix Tryz.func37 (c := zc51) (by kernel_rfl) (Lc := 0) ⟨zayp, zays, trivial⟩ zr51 1 11 [] (fun s => zma s) default zu6 2 [] [.pubB 2] (by decide) (by kernel_rfl) (by rfl) (by decide) (by decide) (by rfl)
    (by rintro a0; kernel_rfl)
end
end Go.Proofs.YtmakmlnfbdablaaGreat.Ab
