/-
  The functions, each by its tree.
-/
import Derived.Test.YtmakmlnfbdablaaGreatXAbFun
import Derived.Test.YtmakmlnfbdablaaGreatXAbStructs
import Derived.Test.YtmakmlnfbdablaaGreatXFLine
import Derived.Test.YtmakmlnfbdablaaGreatXFacts
namespace Go.Proofs.YtmakmlnfbdablaaGreat.Ab
open Go Go.RowKit
set_option maxRecDepth 100000
set_option linter.unusedVariables false
set_option linter.unusedSimpArgs false
noncomputable section
noncomputable def zc46 : Code := Tryz.f74.body.getD .skip
def zv46 : List (List Nat) := [[0, 1], [0, 1, 7, 8, 9], [0, 1, 7, 8, 9, 10], [0, 1, 5, 6, 7, 8, 9], [0, 1, 7, 8, 9, 47], [4], [0, 1, 7, 8, 9], [4]]
noncomputable def zy46 : EnvT := ⟨Tryz.prog, zr []⟩
theorem zh46 : (zy46).Ok := ze trivial
def zia (x0 : (List Power)) (x1 : Int) (x2 : (List Power)) (x3 : Int) (x4 : Int) : Tr (((List Power) × Int × (List Power) × Int × Int) ⊕ ((Bool) ⊕ (Unit))) :=
  (.ite (decide (x4 < x3))
    (.guard ((0 : Int) ≤ x4 ∧ x4 < ((Sl.len (.powers x2) : Nat) : Int))
    (.guard (((decide (x4 > 0)) = true → (((decide (((x2.getD x4.toNat default).V) < 0)) || (decide (((x2.getD x4.toNat default).V) ≥ 6))) = false → ((0 : Int) ≤ (IntKind.i64.wrap (x4 - 1)) ∧ (IntKind.i64.wrap (x4 - 1)) < ((Sl.len (.powers x0) : Nat) : Int)) ∧ True)))
    (.ite (((((decide (((x2.getD x4.toNat default).V) < 0)) || (decide (((x2.getD x4.toNat default).V) ≥ 6))) || ((decide (x4 > 0)) && (decide (((x0.getD ((IntKind.i64.wrap (x4 - 1)).toNat) default).V) ≥ ((x2.getD x4.toNat default).V))))) || (decide (((x2.getD x4.toNat default).N) < x1))) || (decide (((x2.getD x4.toNat default).N) > 1125899906842624)))
      (.leaf (.inr (.inl false)))
      (.leaf (.inl (x0, x1, x2, x3, IntKind.i64.wrap (x4 + 1)))))))
    (.leaf (.inr (.inr ()))))
def zq9 (x0 : (List Power)) (x1 : Int) (x2 : (List Power)) (x3 : Int) (x4 : Int) : Option ((Bool) ⊕ (Unit)) := zeh (fun s : (List Power) × Int × (List Power) × Int × Int => (zia s.1 s.2.1 s.2.2.1 s.2.2.2.1 s.2.2.2.2).run) (x0, x1, x2, x3, x4)
def za0z : Ann := ⟨[], [], [], zv46, []⟩
def za00 : EndD ((List Power) × Int × (List Power) × Int × Int) := ⟨(LQ.seq (Par.q zm) (LQ.seq (Par.q intP) (LQ.seq (Par.q zm) (LQ.seq (Par.q intP) (Par.q intP))))), ⟨[0, 1, 7, 8, 9], [.pub 0, .nilsl 0 (.powers []), .pub 7, .nilsl 7 (.powers [])]⟩, []⟩
def zars : EndD (Bool) := ⟨(Par.q boolP), ⟨[4], []⟩, []⟩
def zart : EndD (Unit) := ⟨LQ.nil, ⟨[], []⟩, []⟩
def zavv : St → Option LR := L2 49 3 0 za00 .ret zars (.exit 0) zart (fun s => zia s.1 s.2.1 s.2.2.1 s.2.2.2.1 s.2.2.2.2)
theorem za01 : zq (zy46).env 0 (sub zc46 [0, 1, 0, 1]) zavv :=
  zn2 (A := za0z) zh46 Facts.mix trivial (k := zci (sub zc46 [0, 1, 0, 1])) (by kernel_rfl) rfl rfl (by rintro ⟨x0, x1, x2, x3, x4⟩; kernel_rfl)
def za46 : Ann := ⟨[([0, 1, 0, 1], zavv)], [], [], zv46, []⟩
def zmp (a0 : (List Power)) (a1 : Int) : Tr (Bool) :=
  (.two (zq9 a0 a1 a0 ((a0.length : Nat) : Int) 0) (fun v1 =>
    (.leaf v1)) (fun v2 =>
    (.leaf true)))
def zpy (a0 : (List Power)) (a1 : Int) : Option (Bool) := (zmp a0 a1).run
def zr46 : LQ ((List Power) × Int) := (LQ.seq (Par.q zm) (Par.q intP))
def zwf : LQ (Bool) := (Par.q boolP)
def zyt : SpecT := zv 0 zr46 2 [] (fun s => zmp s.1 s.2) default zwf 1 []
theorem z5q : zi Tryz.prog 74 (zyt).spec :=
  zf (A := za46) zh46 Facts.mix Tryz.func74 (c := zc46) (by kernel_rfl) (Lc := 0) ⟨za01, trivial⟩ zr46 2 3 [] (fun s => zmp s.1 s.2) default zwf 1 [] [] (by decide) (by kernel_rfl) (by rfl) (by decide) (by decide) (by rfl)
    (by rintro ⟨a0, a1⟩; kernel_rfl)
noncomputable def zc47 : Code := Tryz.f55.body.getD .skip
def zv47 : List (List Nat) := [[1], [1, 5], [2], [1, 14], [2], [1, 23], [2], [1, 47], [2], [1, 76], [2], [1, 82, 83, 84], [1, 82, 83, 84, 85], [1, 3, 4, 82, 83, 84], [1, 82, 83, 84, 108], [2], [1, 82, 83, 84], [2]]
noncomputable def zy47 : EnvT := ⟨Tryz.prog, zr [(74, zyt)]⟩
theorem zh47 : (zy47).Ok := ze ⟨z5q, trivial⟩
def zkr (x0 : (List Int)) (x1 : Int) (x2 : Int) (x3 : Packet) : Tr (((List Int) × Int × Int × Packet) ⊕ ((Int) ⊕ (Unit))) :=
  (.ite (decide (x2 < x1))
    (.guard ((0 : Int) ≤ x2 ∧ x2 < ((Sl.len (.ints x0) : Nat) : Int))
    (.guard (((decide (x2 > 0)) = true → (((decide ((x0.getD x2.toNat 0) < 0)) || (decide ((x0.getD x2.toNat 0) ≥ 6))) = false → ((0 : Int) ≤ (IntKind.i64.wrap (x2 - 1)) ∧ (IntKind.i64.wrap (x2 - 1)) < ((Sl.len (.ints x3.Done) : Nat) : Int)) ∧ True)))
    (.ite (((decide ((x0.getD x2.toNat 0) < 0)) || (decide ((x0.getD x2.toNat 0) ≥ 6))) || ((decide (x2 > 0)) && (decide ((x3.Done.getD ((IntKind.i64.wrap (x2 - 1)).toNat) 0) ≥ (x0.getD x2.toNat 0)))))
      (.leaf (.inr (.inl 2)))
      (.leaf (.inl (x0, x1, IntKind.i64.wrap (x2 + 1), x3))))))
    (.leaf (.inr (.inr ()))))
def zut (x0 : (List Int)) (x1 : Int) (x2 : Int) (x3 : Packet) : Option ((Int) ⊕ (Unit)) := zeh (fun s : (List Int) × Int × Int × Packet => (zkr s.1 s.2.1 s.2.2.1 s.2.2.2).run) (x0, x1, x2, x3)
def za03 : Ann := ⟨[], [], [], zv47, []⟩
def za04 : EndD ((List Int) × Int × Int × Packet) := ⟨(LQ.skip (LQ.const (.ptr 0 0)) (LQ.seq (Par.q zhg) (LQ.seq (Par.q intP) (LQ.seq (Par.q intP) (LP.q zl0))))), ⟨[1, 82, 83, 84], [.pub 82, .nilsl 82 (.ints [])]⟩, [.cells 79 6]⟩
def zaru : EndD (Int) := ⟨(Par.q intP), ⟨[2], []⟩, []⟩
def zarv : EndD (Unit) := ⟨LQ.nil, ⟨[], []⟩, []⟩
def zavw : St → Option LR := L2 110 3 0 za04 .ret zaru (.exit 1) zarv (fun s => zkr s.1 s.2.1 s.2.2.1 s.2.2.2)
theorem za05 : zq (zy47).env 0 (sub zc47 [0, 1, 0, 1, 1]) zavw :=
  zn2 (A := za03) zh47 Facts.mix trivial (k := zci (sub zc47 [0, 1, 0, 1, 1])) (by kernel_rfl) rfl rfl (by rintro ⟨x0, x1, x2, x3⟩; kernel_rfl)
def za47 : Ann := ⟨[([0, 1, 0, 1, 1], zavw)], [], [], zv47, []⟩
def zra (a0 : Packet) : Tr (Int) :=
  (.ite ((decide (a0.Kind < 1)) || (decide (a0.Kind > 4)))
    (.leaf 3)
    (.ite ((decide (a0.Id < 1)) || (decide (a0.Id > 1099511627776)))
      (.leaf 2)
      (.ite ((decide (a0.Kind ≥ 3)) && ((((decide (a0.V < 0)) || (decide (a0.V ≥ 6))) || (decide (a0.N < 1))) || (decide (a0.N > 1125899906842624))))
        (.leaf 2)
        (.ite (((decide (a0.Kind ≤ 2)) && ((a0.V != 0) || (a0.N != 0))) || ((a0.Kind != 1) && (decide ((IntKind.i64.wrap (((a0.Set.length : Nat) : Int) + ((a0.Done.length : Nat) : Int))) > 0))))
          (.leaf 1)
          (.bind (zpy a0.Set 0) fun v1 =>
          (.ite (!v1)
            (.leaf 2)
            (.two (zut a0.Done ((a0.Done.length : Nat) : Int) 0 a0) (fun v2 =>
              (.leaf v2)) (fun v3 =>
              (.leaf 0)))))))))
def zgd (a0 : Packet) : Option (Int) := (zra a0).run
def zr47 : LQ (Packet) := (Par.q (Par.ofLP zl0))
def z1b : LQ (Int) := (Par.q intP)
def zni : SpecT := zv 0 zr47 1 [] (fun s => zra s) default z1b 1 []
theorem zpa : zi Tryz.prog 55 (zni).spec :=
  zf (A := za47) zh47 Facts.mix Tryz.func55 (c := zc47) (by kernel_rfl) (Lc := 0) ⟨za05, trivial⟩ zr47 1 3 [] (fun s => zra s) default z1b 1 [] [] (by decide) (by kernel_rfl) (by rfl) (by decide) (by decide) (by rfl)
    (by rintro a0; kernel_rfl)
noncomputable def zc48 : Code := Tryz.f59.body.getD .skip
def zv48 : List (List Nat) := [[0, 1, 2], [0, 1, 7], [0, 1, 7, 11], [0, 1, 7], [0, 1, 7], [6]]
noncomputable def zy48 : EnvT := ⟨Tryz.prog, zr []⟩
theorem zh48 : (zy48).Ok := ze trivial
def zmq (x0 : Int) (x1 : Int) (x2 : (List UInt8)) : Tr ((Int × Int × (List UInt8)) ⊕ ((List UInt8))) :=
  (.ite (decide (x1 ≥ 0))
    (.guard ((0 : Int) ≤ (IntKind.u64.wrap (IntKind.i64.wrap (8 * x1))))
    (.guard (0 ≤ (IntKind.u8.wrap (Int.fdiv x0 (2 ^ (min (IntKind.u64.wrap (IntKind.i64.wrap (8 * x1))).toNat 64)))) ∧ (IntKind.u8.wrap (Int.fdiv x0 (2 ^ (min (IntKind.u64.wrap (IntKind.i64.wrap (8 * x1))).toNat 64)))) < 256)
    (.guard ((Sl.len (.bytes x2) + Sl.len (.bytes [UInt8.ofNat (IntKind.u8.wrap (Int.fdiv x0 (2 ^ (min (IntKind.u64.wrap (IntKind.i64.wrap (8 * x1))).toNat 64)))).toNat])) * 1 ≤ 140737488355328)
    (.leaf (.inl (x0, IntKind.i64.wrap (x1 - 1), x2 ++ [UInt8.ofNat (IntKind.u8.wrap (Int.fdiv x0 (2 ^ (min (IntKind.u64.wrap (IntKind.i64.wrap (8 * x1))).toNat 64)))).toNat]))))))
    (.leaf (.inr x2)))
def zpz (x0 : Int) (x1 : Int) (x2 : (List UInt8)) : Option ((List UInt8)) := zeh (fun s : Int × Int × (List UInt8) => (zmq s.1 s.2.1 s.2.2).run) (x0, x1, x2)
def za07 : Ann := ⟨[], [], [], zv48, []⟩
def za08 : EndD (Int × Int × (List UInt8)) := ⟨(LQ.skip (LQ.const (.own 0)) (LQ.seq (Par.q intP) (LQ.seq (Par.q intP) (Par.q z0s)))), ⟨[0, 1, 7], [.nilown 0 5 (.bytes [])]⟩, [.rows 5]⟩
def zarw : EndD ((List UInt8)) := ⟨(LQ.skip (LQ.const (.own 0)) (Par.q z0s)), ⟨[0], [.nilown 0 5 (.bytes [])]⟩, [.rows 5]⟩
def zavx : St → Option LR := L1 24 5 0 za08 (.exit 0) zarw (fun s => zmq s.1 s.2.1 s.2.2)
theorem za09 : zq (zy48).env 0 (sub zc48 [0, 1, 0, 1]) zavx :=
  ziy (A := za07) zh48 Facts.mix trivial (k := zci (sub zc48 [0, 1, 0, 1])) (by kernel_rfl) rfl (by rintro ⟨x0, x1, x2⟩; kernel_rfl)
def za48 : Ann := ⟨[([0, 1, 0, 1], zavx)], [], [], zv48, []⟩
def zt4 (a0 : Int) (a1 : Int) (a2 : (List UInt8)) : Tr ((List UInt8)) :=
  (.bind (zpz a0 (IntKind.i64.wrap (a1 - 1)) a2) fun v1 =>
  (.leaf v1))
def zp (a0 : Int) (a1 : Int) (a2 : (List UInt8)) : Option ((List UInt8)) := (zt4 a0 a1 a2).run
def zr48 : LQ (Int × Int × (List UInt8)) := (LQ.skip (LQ.const (.own 0)) (LQ.seq (Par.q intP) (LQ.seq (Par.q intP) (Par.q z0s))))
def z29 : LQ ((List UInt8)) := (LQ.skip (LQ.const (.own 0)) (Par.q z0s))
def z5r : SpecT := zv 0 zr48 3 [.rows 5] (fun s => zt4 s.1 s.2.1 s.2.2) default z29 1 [.rows 5]
theorem zaca : zi Tryz.prog 59 (z5r).spec :=
  zf (A := za48) zh48 Facts.mix Tryz.func59 (c := zc48) (by kernel_rfl) (Lc := 0) ⟨za09, trivial⟩ zr48 3 5 [.rows 5] (fun s => zt4 s.1 s.2.1 s.2.2) default z29 1 [.rows 5] [.nilown 6 5 (.bytes [])] (by decide) (by kernel_rfl) (by rfl) (by decide) (by decide) (by rfl)
    (by rintro ⟨a0, a1, a2⟩; kernel_rfl)
noncomputable def zc49 : Code := Tryz.f28.body.getD .skip
def zv49 : List (List Nat) := [[1], [1, 4], [1, 4, 13], [2, 3], [1, 5], [1, 5], [1, 5, 34, 35, 36], [1, 5, 34, 35, 36, 37], [1, 5, 7, 34, 35, 36], [1, 5, 34, 35, 36], [1, 5, 34, 35, 36], [1, 5], [5, 54, 55, 56], [5, 54, 55, 56, 57], [5, 9, 54, 55, 56], [5, 54, 55, 56], [5, 54, 55, 56], [2, 3]]
noncomputable def zy49 : EnvT := ⟨Tryz.prog, zr [(55, zni), (59, z5r)]⟩
theorem zh49 : (zy49).Ok := ze ⟨zpa, zaca, trivial⟩
def zib (x0 : (List Power)) (x1 : Int) (x2 : Int) (x3 : Packet) (x4 : (List UInt8)) : Tr (((List Power) × Int × Int × Packet × (List UInt8)) ⊕ (Packet × (List UInt8))) :=
  (.ite (decide (x2 < x1))
    (.guard ((0 : Int) ≤ x2 ∧ x2 < ((Sl.len (.powers x0) : Nat) : Int))
    (.guard ((zp ((x0.getD x2.toNat default).V) 1 x4).isSome = true)
    (.guard ((zp ((x0.getD x2.toNat default).N) 7 ((zp ((x0.getD x2.toNat default).V) 1 x4).getD default)).isSome = true)
    (.leaf (.inl (x0, x1, IntKind.i64.wrap (x2 + 1), x3, ((zp ((x0.getD x2.toNat default).N) 7 ((zp ((x0.getD x2.toNat default).V) 1 x4).getD default)).getD default)))))))
    (.leaf (.inr (x3, x4))))
def zks (x0 : (List Power)) (x1 : Int) (x2 : Int) (x3 : Packet) (x4 : (List UInt8)) : Option (Packet × (List UInt8)) := zeh (fun s : (List Power) × Int × Int × Packet × (List UInt8) => (zib s.1 s.2.1 s.2.2.1 s.2.2.2.1 s.2.2.2.2).run) (x0, x1, x2, x3, x4)
def za1d : Ann := ⟨[], [], [], zv49, []⟩
def za1e : EndD ((List Power) × Int × Int × Packet × (List UInt8)) := ⟨(LQ.skip (LQ.const (.ptr 0 0)) (LQ.skip (LQ.const (.own 1)) (LQ.seq (Par.q zm) (LQ.seq (Par.q intP) (LQ.seq (Par.q intP) (LQ.seq (LP.q zl0) (Par.q z0s))))))), ⟨[1, 5, 34, 35, 36], [.nilown 5 5 (.bytes []), .pub 34, .nilsl 34 (.powers [])]⟩, [.cells 79 6, .rows 5]⟩
def zarx : EndD (Packet × (List UInt8)) := ⟨(LQ.skip (LQ.const (.ptr 0 0)) (LQ.skip (LQ.const (.own 1)) (LQ.seq (LP.q zl0) (Par.q z0s)))), ⟨[1, 5], [.nilown 5 5 (.bytes [])]⟩, [.cells 79 6, .rows 5]⟩
def zavz : St → Option LR := L1 66 8 0 za1e (.exit 0) zarx (fun s => zib s.1 s.2.1 s.2.2.1 s.2.2.2.1 s.2.2.2.2)
theorem za1f : zq (zy49).env 0 (sub zc49 [0, 1, 0, 1, 1, 1, 1]) zavz :=
  ziy (A := za1d) zh49 Facts.mix trivial (k := zci (sub zc49 [0, 1, 0, 1, 1, 1, 1])) (by kernel_rfl) rfl (by rintro ⟨x0, x1, x2, x3, x4⟩; kernel_rfl)
def zic (x0 : (List Int)) (x1 : Int) (x2 : Int) (x3 : (List UInt8)) : Tr (((List Int) × Int × Int × (List UInt8)) ⊕ ((List UInt8))) :=
  (.ite (decide (x2 < x1))
    (.guard ((0 : Int) ≤ x2 ∧ x2 < ((Sl.len (.ints x0) : Nat) : Int))
    (.bind (zp (x0.getD x2.toNat 0) 1 x3) fun v4 =>
    (.leaf (.inl (x0, x1, IntKind.i64.wrap (x2 + 1), v4)))))
    (.leaf (.inr x3)))
def zkt (x0 : (List Int)) (x1 : Int) (x2 : Int) (x3 : (List UInt8)) : Option ((List UInt8)) := zeh (fun s : (List Int) × Int × Int × (List UInt8) => (zic s.1 s.2.1 s.2.2.1 s.2.2.2).run) (x0, x1, x2, x3)
def za1g : Ann := ⟨[], [], [], zv49, []⟩
def za1h : EndD ((List Int) × Int × Int × (List UInt8)) := ⟨(LQ.skip (LQ.const (.own 0)) (LQ.seq (Par.q zhg) (LQ.seq (Par.q intP) (LQ.seq (Par.q intP) (Par.q z0s))))), ⟨[5, 54, 55, 56], [.nilown 5 5 (.bytes []), .pub 54, .nilsl 54 (.ints [])]⟩, [.rows 5]⟩
def zary : EndD ((List UInt8)) := ⟨(LQ.skip (LQ.const (.own 0)) (Par.q z0s)), ⟨[5], [.nilown 5 5 (.bytes [])]⟩, [.rows 5]⟩
def zav0 : St → Option LR := L1 66 8 0 za1h (.exit 2) zary (fun s => zic s.1 s.2.1 s.2.2.1 s.2.2.2)
theorem za1i : zq (zy49).env 0 (sub zc49 [0, 1, 0, 1, 1, 1, 1, 1, 1]) zav0 :=
  ziy (A := za1g) zh49 Facts.mix trivial (k := zci (sub zc49 [0, 1, 0, 1, 1, 1, 1, 1, 1])) (by kernel_rfl) rfl (by rintro ⟨x0, x1, x2, x3⟩; kernel_rfl)
def za49 : Ann := ⟨[([0, 1, 0, 1, 1, 1, 1], zavz), ([0, 1, 0, 1, 1, 1, 1, 1, 1], zav0)], [], [], zv49, []⟩
def zmr (a0 : Packet) : Tr (ByteArray × Int) :=
  (.bind (zgd a0) fun v1 =>
  (.ite (v1 != 0)
    (.leaf ((⟨#[]⟩ : ByteArray), v1))
    (.guard (0 ≤ (IntKind.u8.wrap a0.Kind) ∧ (IntKind.u8.wrap a0.Kind) < 256)
    (.guard ((zp a0.Id 6 [UInt8.ofNat (IntKind.u8.wrap a0.Kind).toNat]).isSome = true)
    (.guard ((zp a0.V 1 ((zp a0.Id 6 [UInt8.ofNat (IntKind.u8.wrap a0.Kind).toNat]).getD default)).isSome = true)
    (.guard ((zp a0.N 7 ((zp a0.V 1 ((zp a0.Id 6 [UInt8.ofNat (IntKind.u8.wrap a0.Kind).toNat]).getD default)).getD default)).isSome = true)
    (.guard ((zp ((a0.Set.length : Nat) : Int) 1 ((zp a0.N 7 ((zp a0.V 1 ((zp a0.Id 6 [UInt8.ofNat (IntKind.u8.wrap a0.Kind).toNat]).getD default)).getD default)).getD default)).isSome = true)
    (.bind (zks a0.Set ((a0.Set.length : Nat) : Int) 0 a0 ((zp ((a0.Set.length : Nat) : Int) 1 ((zp a0.N 7 ((zp a0.V 1 ((zp a0.Id 6 [UInt8.ofNat (IntKind.u8.wrap a0.Kind).toNat]).getD default)).getD default)).getD default)).getD default)) fun v2 =>
    (.bind (zp ((v2.1.Done.length : Nat) : Int) 1 v2.2) fun v3 =>
    (.bind (zkt v2.1.Done ((v2.1.Done.length : Nat) : Int) 0 v3) fun v5 =>
    (.leaf ((⟨v5.toArray⟩ : ByteArray), 0))))))))))))
def zbn (a0 : Packet) : Option (ByteArray × Int) := (zmr a0).run
def zr49 : LQ (Packet) := (Par.q (Par.ofLP zl0))
def zwg : LQ (ByteArray × Int) := (LQ.seq (Par.q strP) (Par.q intP))
def zms : SpecT := zv 0 zr49 1 [] (fun s => zmr s) default zwg 2 []
theorem zp0 : zi Tryz.prog 28 (zms).spec :=
  zf (A := za49) zh49 Facts.mix Tryz.func28 (c := zc49) (by kernel_rfl) (Lc := 0) ⟨za1f, za1i, trivial⟩ zr49 1 8 [] (fun s => zmr s) default zwg 2 [] [] (by decide) (by kernel_rfl) (by rfl) (by decide) (by decide) (by rfl)
    (by rintro a0; kernel_rfl)
noncomputable def zc50 : Code := Tryz.f69.body.getD .skip
def zv50 : List (List Nat) := [[0, 1], [0, 1, 14], [], [4], [0, 1, 5], [0, 1, 5, 27, 28, 29], [0, 1, 5, 27, 28, 29, 30], [0, 1, 5, 7, 27, 28, 29], [0, 1, 5, 27, 28, 29], [0, 1, 5, 27, 28, 29], [5], [4]]
noncomputable def zy50 : EnvT := ⟨Tryz.prog, zr []⟩
theorem zh50 : (zy50).Ok := ze trivial
def zb4 (x0 : Int) (x1 : Int) (x2 : (List UInt8)) (x3 : Int) (x4 : Int) (x5 : zbz) : Tr ((Int × Int × (List UInt8) × Int × Int × zbz) ⊕ (Int × Int × zbz)) :=
  (.ite (decide (x4 < x3))
    (.guard ((0 : Int) ≤ x4 ∧ x4 < ((Sl.len (.bytes x2) : Nat) : Int))
    (.guard ((0 : Int) ≤ 8)
    (.leaf (.inl (x0, IntKind.i64.wrap (((BitVec.ofInt 64 (IntKind.i64.wrap (x1 * 2 ^ 8)) ||| BitVec.ofInt 64 (IntKind.i64.wrap (((x2.getD x4.toNat 0).toNat : Nat) : Int))).toNat : Nat) : Int), x2, x3, IntKind.i64.wrap (x4 + 1), x5)))))
    (.leaf (.inr (x0, x1, x5))))
def zfo (x0 : Int) (x1 : Int) (x2 : (List UInt8)) (x3 : Int) (x4 : Int) (x5 : zbz) : Option (Int × Int × zbz) := zeh (fun s : Int × Int × (List UInt8) × Int × Int × zbz => (zb4 s.1 s.2.1 s.2.2.1 s.2.2.2.1 s.2.2.2.2.1 s.2.2.2.2.2).run) (x0, x1, x2, x3, x4, x5)
def za1k : Ann := ⟨[], [], [], zv50, []⟩
def za1l : EndD (Int × Int × (List UInt8) × Int × Int × zbz) := ⟨(LQ.skip (LQ.const (.ptr 0 0)) (LQ.seq (Par.q intP) (LQ.seq (Par.q intP) (LQ.seq (Par.q z0s) (LQ.seq (Par.q intP) (LQ.seq (Par.q intP) (LP.q z2t))))))), ⟨[0, 1, 5, 27, 28, 29], [.pub 27, .nilsl 27 (.bytes [])]⟩, [.cells 137 2]⟩
def zarz : EndD (Int × Int × zbz) := ⟨(LQ.skip (LQ.const (.ptr 0 0)) (LQ.seq (Par.q intP) (LQ.seq (Par.q intP) (LP.q z2t)))), ⟨[0, 1, 5], []⟩, [.cells 137 2]⟩
def zav1 : St → Option LR := L1 49 3 1 za1l (.exit 0) zarz (fun s => zb4 s.1 s.2.1 s.2.2.1 s.2.2.2.1 s.2.2.2.2.1 s.2.2.2.2.2)
theorem za1m : zq (zy50).env 1 (sub zc50 [0, 1, 0, 1, 1, 1]) zav1 :=
  ziy (A := za1k) zh50 Facts.mix trivial (k := zci (sub zc50 [0, 1, 0, 1, 1, 1])) (by kernel_rfl) rfl (by rintro ⟨x0, x1, x2, x3, x4, x5⟩; kernel_rfl)
def za50 : Ann := ⟨[([0, 1, 0, 1, 1, 1], zav1)], [], [], zv50, []⟩
def zfh (a0 : Int) (a1 : zbz) : Tr (Int × zbz) :=
  (.ite (decide (a0 > ((a1.s.size : Nat) : Int)))
    (.leaf (0, (⟨(⟨#[]⟩ : ByteArray), true⟩ : zbz)))
    (.guard ((0 : Int) ≤ 0 ∧ 0 ≤ (a0 : Int) ∧ a0 ≤ ((a1.s.size : Nat) : Int))
    (.guard ((a1.s.extract 0 a0.toNat).size ≤ 9223372036854775807)
    (.bind (zfo a0 0 ((a1.s.extract 0 a0.toNat).data.toList) ((((a1.s.extract 0 a0.toNat).data.toList).length : Nat) : Int) 0 a1) fun v1 =>
    (.guard ((0 : Int) ≤ v1.1 ∧ v1.1 ≤ (((v1.2.2.s.size : Nat) : Int) : Int) ∧ ((v1.2.2.s.size : Nat) : Int) ≤ ((v1.2.2.s.size : Nat) : Int))
    (.leaf (v1.2.1, (⟨v1.2.2.s.extract v1.1.toNat v1.2.2.s.size, v1.2.2.bad⟩ : zbz))))))))
def zg (a0 : Int) (a1 : zbz) : Option (Int × zbz) := (zfh a0 a1).run
def zr50 : LQ (Int × zbz) := (LQ.skip (LQ.const (.ptr 0 0)) (LQ.seq (Par.q intP) (LP.q z2t)))
def znj : LQ (Int × zbz) := (LQ.seq (Par.q intP) (LP.q z2t))
def zoc : SpecT := zv 1 zr50 2 [.cells 137 2] (fun s => zfh s.1 s.2) default znj 1 [.cells 137 2]
theorem zwh : zi Tryz.prog 69 (zoc).spec :=
  zf (A := za50) zh50 Facts.mix Tryz.func69 (c := zc50) (by kernel_rfl) (Lc := 1) ⟨za1m, trivial⟩ zr50 2 3 [.cells 137 2] (fun s => zfh s.1 s.2) default znj 1 [.cells 137 2] [] (by decide) (by kernel_rfl) (by rfl) (by decide) (by decide) (by rfl)
    (by rintro ⟨a0, a1⟩; kernel_rfl)
noncomputable def zc51 : Code := Tryz.f37.body.getD .skip
def zv51 : List (List Nat) := [[0, 2], [2, 4], [2, 4, 5], [2, 4, 5, 6], [2, 4, 5, 6, 32], [2, 4, 5, 6], [2, 4, 5, 6, 7], [2, 4, 5, 6], [2, 4, 5, 8], [2, 4, 5, 8, 56], [2, 4, 5, 8], [2, 4, 5, 8], [2, 5, 76], [2, 3], [2, 5, 9], [2, 5, 9, 81], [2, 3], [2, 3]]
noncomputable def zy51 : EnvT := ⟨Tryz.prog, zr [(69, zoc), (55, zni)]⟩
theorem zh51 : (zy51).Ok := ze ⟨zwh, zpa, trivial⟩
def zfp (x0 : Int) (x1 : Packet) (x2 : zbz) (x3 : Packet) : Tr ((Int × Packet × zbz × Packet) ⊕ (Packet × zbz × Packet)) :=
  (.ite ((decide (x0 > 0)) && (!x2.bad))
    (.bind (zg 1 x2) fun v6 =>
    (.guard ((zg 7 v6.2).isSome = true)
    (.guard ((Sl.len (.powers x3.Set) + Sl.len (.powers [(⟨v6.1, ((zg 7 v6.2).getD default).1⟩ : Power)])) * 16 ≤ 140737488355328)
    (.leaf (.inl (IntKind.i64.wrap (x0 - 1), x1, (((zg 7 v6.2).getD default).2), { (x3 : Packet) with Set := x3.Set ++ [(⟨v6.1, ((zg 7 v6.2).getD default).1⟩ : Power)] }))))))
    (.leaf (.inr (x1, x2, x3))))
def zaw (x0 : Int) (x1 : Packet) (x2 : zbz) (x3 : Packet) : Option (Packet × zbz × Packet) := zeh (fun s : Int × Packet × zbz × Packet => (zfp s.1 s.2.1 s.2.2.1 s.2.2.2).run) (x0, x1, x2, x3)
def za1q : Ann := ⟨[], [], [], zv51, []⟩
def za1r : EndD (Int × Packet × zbz × Packet) := ⟨(LQ.map (LQ.skip (LQ.const (.ptr 0 0)) (LQ.skip (LQ.const (.ptr 1 0)) (LQ.skip (LQ.const (.ptr 2 0)) (LQ.seq (Par.q intP) (LQ.seq (Par.q intP) (LQ.seq (Par.q intP) (LQ.seq (Par.q intP) (LQ.seq (Par.q intP) (LQ.skip (LQ.const (.own 3)) (LQ.skip (LQ.const (.own 4)) (LQ.seq (LP.q z2t) (LQ.seq (Par.q intP) (LQ.seq (Par.q intP) (LQ.seq (Par.q intP) (LQ.seq (Par.q intP) (LQ.skip (LQ.const (.own 5)) (LQ.skip (LQ.const (.own 6)) (LQ.seq (Par.q zm) (LQ.seq (Par.q zhg) (LQ.seq (Par.q zm) (Par.q zhg))))))))))))))))))))) (fun x : Int × Int × Int × Int × Int × zbz × Int × Int × Int × Int × (List Power) × (List Int) × (List Power) × (List Int) => ((x.1, (⟨x.2.1, x.2.2.1, x.2.2.2.1, x.2.2.2.2.1, x.2.2.2.2.2.2.2.2.2.2.1, x.2.2.2.2.2.2.2.2.2.2.2.1⟩ : Packet), x.2.2.2.2.2.1, (⟨x.2.2.2.2.2.2.1, x.2.2.2.2.2.2.2.1, x.2.2.2.2.2.2.2.2.1, x.2.2.2.2.2.2.2.2.2.1, x.2.2.2.2.2.2.2.2.2.2.2.2.1, x.2.2.2.2.2.2.2.2.2.2.2.2.2⟩ : Packet)) : Int × Packet × zbz × Packet)) (fun y => (y.1, y.2.1.Kind, y.2.1.Id, y.2.1.V, y.2.1.N, y.2.2.1, y.2.2.2.Kind, y.2.2.2.Id, y.2.2.2.V, y.2.2.2.N, y.2.1.Set, y.2.1.Done, y.2.2.2.Set, y.2.2.2.Done)) (fun _ => rfl)), ⟨[2, 4, 5, 6], [.nilcell 2 4 83 (.powers []), .nilcell 2 5 3 (.ints []), .nilcell 5 4 83 (.powers []), .nilcell 5 5 3 (.ints [])]⟩, [.cells 79 6, .cells 137 2, .cells 79 6, .rows 83, .rows 3, .rows 83, .rows 3]⟩
def zar0 : EndD (Packet × zbz × Packet) := ⟨(LQ.map (LQ.skip (LQ.const (.ptr 0 0)) (LQ.skip (LQ.const (.ptr 1 0)) (LQ.skip (LQ.const (.ptr 2 0)) (LQ.seq (Par.q intP) (LQ.seq (Par.q intP) (LQ.seq (Par.q intP) (LQ.seq (Par.q intP) (LQ.skip (LQ.const (.own 3)) (LQ.skip (LQ.const (.own 4)) (LQ.seq (LP.q z2t) (LQ.seq (Par.q intP) (LQ.seq (Par.q intP) (LQ.seq (Par.q intP) (LQ.seq (Par.q intP) (LQ.skip (LQ.const (.own 5)) (LQ.skip (LQ.const (.own 6)) (LQ.seq (Par.q zm) (LQ.seq (Par.q zhg) (LQ.seq (Par.q zm) (Par.q zhg)))))))))))))))))))) (fun x : Int × Int × Int × Int × zbz × Int × Int × Int × Int × (List Power) × (List Int) × (List Power) × (List Int) => (((⟨x.1, x.2.1, x.2.2.1, x.2.2.2.1, x.2.2.2.2.2.2.2.2.2.1, x.2.2.2.2.2.2.2.2.2.2.1⟩ : Packet), x.2.2.2.2.1, (⟨x.2.2.2.2.2.1, x.2.2.2.2.2.2.1, x.2.2.2.2.2.2.2.1, x.2.2.2.2.2.2.2.2.1, x.2.2.2.2.2.2.2.2.2.2.2.1, x.2.2.2.2.2.2.2.2.2.2.2.2⟩ : Packet)) : Packet × zbz × Packet)) (fun y => (y.1.Kind, y.1.Id, y.1.V, y.1.N, y.2.1, y.2.2.Kind, y.2.2.Id, y.2.2.V, y.2.2.N, y.1.Set, y.1.Done, y.2.2.Set, y.2.2.Done)) (fun _ => rfl)), ⟨[2, 4, 5], [.nilcell 2 4 83 (.powers []), .nilcell 2 5 3 (.ints []), .nilcell 5 4 83 (.powers []), .nilcell 5 5 3 (.ints [])]⟩, [.cells 79 6, .cells 137 2, .cells 79 6, .rows 83, .rows 3, .rows 83, .rows 3]⟩
def zav3 : St → Option LR := L1 85 11 0 za1r (.exit 0) zar0 (fun s => zfp s.1 s.2.1 s.2.2.1 s.2.2.2)
theorem za1s : zq (zy51).env 0 (sub zc51 [0, 1, 0, 1, 1, 1]) zav3 :=
  ziy (A := za1q) zh51 Facts.mix trivial (k := zci (sub zc51 [0, 1, 0, 1, 1, 1])) (by kernel_rfl) rfl (by rintro ⟨x0, x1, x2, x3⟩; kernel_rfl)
def zfq (x0 : Int) (x1 : Packet) (x2 : zbz) (x3 : Packet) : Tr ((Int × Packet × zbz × Packet) ⊕ (Packet × zbz × Packet)) :=
  (.ite ((decide (x0 > 0)) && (!x2.bad))
    (.guard ((zg 1 x2).isSome = true)
    (.guard ((Sl.len (.ints x3.Done) + Sl.len (.ints [((zg 1 x2).getD default).1])) * 8 ≤ 140737488355328)
    (.leaf (.inl (IntKind.i64.wrap (x0 - 1), x1, (((zg 1 x2).getD default).2), { (x3 : Packet) with Done := x3.Done ++ [((zg 1 x2).getD default).1] })))))
    (.leaf (.inr (x1, x2, x3))))
def zax (x0 : Int) (x1 : Packet) (x2 : zbz) (x3 : Packet) : Option (Packet × zbz × Packet) := zeh (fun s : Int × Packet × zbz × Packet => (zfq s.1 s.2.1 s.2.2.1 s.2.2.2).run) (x0, x1, x2, x3)
def za1t : Ann := ⟨[], [], [], zv51, []⟩
def za1u : EndD (Int × Packet × zbz × Packet) := ⟨(LQ.map (LQ.skip (LQ.const (.ptr 0 0)) (LQ.skip (LQ.const (.ptr 1 0)) (LQ.skip (LQ.const (.ptr 2 0)) (LQ.seq (Par.q intP) (LQ.seq (Par.q intP) (LQ.seq (Par.q intP) (LQ.seq (Par.q intP) (LQ.seq (Par.q intP) (LQ.skip (LQ.const (.own 3)) (LQ.skip (LQ.const (.own 4)) (LQ.seq (LP.q z2t) (LQ.seq (Par.q intP) (LQ.seq (Par.q intP) (LQ.seq (Par.q intP) (LQ.seq (Par.q intP) (LQ.skip (LQ.const (.own 5)) (LQ.skip (LQ.const (.own 6)) (LQ.seq (Par.q zm) (LQ.seq (Par.q zhg) (LQ.seq (Par.q zm) (Par.q zhg))))))))))))))))))))) (fun x : Int × Int × Int × Int × Int × zbz × Int × Int × Int × Int × (List Power) × (List Int) × (List Power) × (List Int) => ((x.1, (⟨x.2.1, x.2.2.1, x.2.2.2.1, x.2.2.2.2.1, x.2.2.2.2.2.2.2.2.2.2.1, x.2.2.2.2.2.2.2.2.2.2.2.1⟩ : Packet), x.2.2.2.2.2.1, (⟨x.2.2.2.2.2.2.1, x.2.2.2.2.2.2.2.1, x.2.2.2.2.2.2.2.2.1, x.2.2.2.2.2.2.2.2.2.1, x.2.2.2.2.2.2.2.2.2.2.2.2.1, x.2.2.2.2.2.2.2.2.2.2.2.2.2⟩ : Packet)) : Int × Packet × zbz × Packet)) (fun y => (y.1, y.2.1.Kind, y.2.1.Id, y.2.1.V, y.2.1.N, y.2.2.1, y.2.2.2.Kind, y.2.2.2.Id, y.2.2.2.V, y.2.2.2.N, y.2.1.Set, y.2.1.Done, y.2.2.2.Set, y.2.2.2.Done)) (fun _ => rfl)), ⟨[2, 4, 5, 8], [.nilcell 2 4 83 (.powers []), .nilcell 2 5 3 (.ints []), .nilcell 5 4 83 (.powers []), .nilcell 5 5 3 (.ints [])]⟩, [.cells 79 6, .cells 137 2, .cells 79 6, .rows 83, .rows 3, .rows 83, .rows 3]⟩
def zar1 : EndD (Packet × zbz × Packet) := ⟨(LQ.map (LQ.skip (LQ.const (.ptr 0 0)) (LQ.skip (LQ.const (.ptr 1 0)) (LQ.skip (LQ.const (.ptr 2 0)) (LQ.seq (Par.q intP) (LQ.seq (Par.q intP) (LQ.seq (Par.q intP) (LQ.seq (Par.q intP) (LQ.skip (LQ.const (.own 3)) (LQ.skip (LQ.const (.own 4)) (LQ.seq (LP.q z2t) (LQ.seq (Par.q intP) (LQ.seq (Par.q intP) (LQ.seq (Par.q intP) (LQ.seq (Par.q intP) (LQ.skip (LQ.const (.own 5)) (LQ.skip (LQ.const (.own 6)) (LQ.seq (Par.q zm) (LQ.seq (Par.q zhg) (LQ.seq (Par.q zm) (Par.q zhg)))))))))))))))))))) (fun x : Int × Int × Int × Int × zbz × Int × Int × Int × Int × (List Power) × (List Int) × (List Power) × (List Int) => (((⟨x.1, x.2.1, x.2.2.1, x.2.2.2.1, x.2.2.2.2.2.2.2.2.2.1, x.2.2.2.2.2.2.2.2.2.2.1⟩ : Packet), x.2.2.2.2.1, (⟨x.2.2.2.2.2.1, x.2.2.2.2.2.2.1, x.2.2.2.2.2.2.2.1, x.2.2.2.2.2.2.2.2.1, x.2.2.2.2.2.2.2.2.2.2.2.1, x.2.2.2.2.2.2.2.2.2.2.2.2⟩ : Packet)) : Packet × zbz × Packet)) (fun y => (y.1.Kind, y.1.Id, y.1.V, y.1.N, y.2.1, y.2.2.Kind, y.2.2.Id, y.2.2.V, y.2.2.N, y.1.Set, y.1.Done, y.2.2.Set, y.2.2.Done)) (fun _ => rfl)), ⟨[2, 4, 5], [.nilcell 2 4 83 (.powers []), .nilcell 2 5 3 (.ints []), .nilcell 5 4 83 (.powers []), .nilcell 5 5 3 (.ints [])]⟩, [.cells 79 6, .cells 137 2, .cells 79 6, .rows 83, .rows 3, .rows 83, .rows 3]⟩
def zav4 : St → Option LR := L1 85 11 0 za1u (.exit 2) zar1 (fun s => zfq s.1 s.2.1 s.2.2.1 s.2.2.2)
theorem za1v : zq (zy51).env 0 (sub zc51 [0, 1, 0, 1, 1, 1, 1]) zav4 :=
  ziy (A := za1t) zh51 Facts.mix trivial (k := zci (sub zc51 [0, 1, 0, 1, 1, 1, 1])) (by kernel_rfl) rfl (by rintro ⟨x0, x1, x2, x3⟩; kernel_rfl)
def za51 : Ann := ⟨[([0, 1, 0, 1, 1, 1], zav3), ([0, 1, 0, 1, 1, 1, 1], zav4)], [], [], zv51, []⟩
def zmt (a0 : ByteArray) : Tr (Packet × Int) :=
  (.bind (zg 1 (⟨a0, false⟩ : zbz)) fun v1 =>
  (.bind (zg 6 v1.2) fun v2 =>
  (.bind (zg 1 v2.2) fun v3 =>
  (.bind (zg 7 v3.2) fun v4 =>
  (.bind (zg 1 v4.2) fun v5 =>
  (.bind (zaw v5.1 (⟨0, 0, 0, 0, [], []⟩ : Packet) v5.2 (⟨v1.1, v2.1, v3.1, v4.1, [], []⟩ : Packet)) fun v7 =>
  (.bind (zg 1 v7.2.1) fun v8 =>
  (.bind (zax v8.1 v7.1 v8.2 v7.2.2) fun v9 =>
  (.ite (v9.2.1.bad || (!(v9.2.1.s.toList == (⟨#[]⟩ : ByteArray).toList)))
    (.leaf ((⟨0, 0, 0, 0, [], []⟩ : Packet), 1))
    (.bind (zgd v9.2.2) fun v11 =>
    (.ite (v11 != 0)
      (.leaf ((⟨0, 0, 0, 0, [], []⟩ : Packet), v11))
      (.leaf (v9.2.2, 0)))))))))))))
def zcz (a0 : ByteArray) : Option (Packet × Int) := (zmt a0).run
def zr51 : LQ (ByteArray) := (Par.q strP)
def zwi : LQ (Packet × Int) := (LQ.seq (Par.q (Par.ofLP zl0)) (Par.q intP))
def zmu : SpecT := zv 0 zr51 1 [] (fun s => zmt s) default zwi 2 []
theorem zp1 : zi Tryz.prog 37 (zmu).spec :=
  zf (A := za51) zh51 Facts.mix Tryz.func37 (c := zc51) (by kernel_rfl) (Lc := 0) ⟨za1s, za1v, trivial⟩ zr51 1 11 [] (fun s => zmt s) default zwi 2 [] [.pubB 2] (by decide) (by kernel_rfl) (by rfl) (by decide) (by decide) (by rfl)
    (by rintro a0; kernel_rfl)
end
end Go.Proofs.YtmakmlnfbdablaaGreat.Ab
