/-
  The functions, each by its tree.
-/
import Derived.Test.YtmakmlnfbdablaaGreatXAbFun
import Derived.Test.YtmakmlnfbdablaaGreatXAbStructs
import Derived.Test.YtmakmlnfbdablaaGreatXFCodec
import Derived.Test.YtmakmlnfbdablaaGreatXFLine
import Derived.Test.YtmakmlnfbdablaaGreatXFStakeB
import Derived.Test.YtmakmlnfbdablaaGreatXFacts
namespace Go.Proofs.YtmakmlnfbdablaaGreat.Ab
open Go Go.RowKit
set_option maxRecDepth 100000
set_option linter.unusedVariables false
set_option linter.unusedSimpArgs false
noncomputable section
noncomputable def zc90 : Code := Tryz.f54.body.getD .skip
def zv90 : List (List Nat) := [[1], [2]]
noncomputable def zy90 : EnvT := ⟨Tryz.prog, zr [(55, zni)]⟩
theorem zh90 : (zy90).Ok := ze ⟨zpa, trivial⟩
def za90 : Ann := ⟨[], [], [], zv90, []⟩
def zid (a0 : Packet) : Tr (Bool) :=
  (.bind (zgd a0) fun v1 =>
  (.leaf ((v1 != 0) || (a0.Kind != 1))))
def zrj (a0 : Packet) : Option (Bool) := (zid a0).run
def zr90 : LQ (Packet) := (Par.q (Par.ofLP zl0))
def zrk : LQ (Bool) := (Par.q boolP)
def zs0 : SpecT := zv 0 zr90 1 [] (fun s => zid s) default zrk 1 []
theorem z1j : zi Tryz.prog 54 (zs0).spec :=
  zf (A := za90) zh90 Facts.mix Tryz.func54 (c := zc90) (by kernel_rfl) (Lc := 0) trivial zr90 1 3 [] (fun s => zid s) default zrk 1 [] [] (by decide) (by kernel_rfl) (by rfl) (by decide) (by decide) (by rfl)
    (by rintro a0; kernel_rfl)
noncomputable def zc91 : Code := Tryz.f73.body.getD .skip
def zv91 : List (List Nat) := [[0, 1], [0, 1, 7, 8], [0, 1, 7, 8, 9], [0, 1, 5, 7, 8], [0, 1, 5, 7, 8, 16], [4], [0, 1, 7, 8], [4]]
noncomputable def zy91 : EnvT := ⟨Tryz.prog, zr [(54, zs0)]⟩
theorem zh91 : (zy91).Ok := ze ⟨z1j, trivial⟩
def zah (x0 : (List Packet)) (x1 : Int) (x2 : Int) : Tr (((List Packet) × Int × Int) ⊕ ((Int) ⊕ (Unit))) :=
  (.ite (decide (x2 < x1))
    (.guard ((0 : Int) ≤ x2 ∧ x2 < ((Sl.len (.packets x0) : Nat) : Int))
    (.bind (zrj (x0.getD x2.toNat default)) fun v1 =>
    (.ite (v1)
      (.leaf (.inr (.inl x2)))
      (.leaf (.inl (x0, x1, IntKind.i64.wrap (x2 + 1)))))))
    (.leaf (.inr (.inr ()))))
def zew (x0 : (List Packet)) (x1 : Int) (x2 : Int) : Option ((Int) ⊕ (Unit)) := zeh (fun s : (List Packet) × Int × Int => (zah s.1 s.2.1 s.2.2).run) (x0, x1, x2)
def za3q : Ann := ⟨[], [], [], zv91, []⟩
def za3r : EndD ((List Packet) × Int × Int) := ⟨(LQ.seq (Par.q zdv) (LQ.skip (LQ.const (.fn 54 [])) (LQ.seq (Par.q intP) (Par.q intP)))), ⟨[0, 1, 7, 8], [.pub 0, .nilsl 0 (.packets [])]⟩, []⟩
def zask : EndD (Int) := ⟨(Par.q intP), ⟨[4], []⟩, []⟩
def zasl : EndD (Unit) := ⟨LQ.nil, ⟨[], []⟩, []⟩
def zawi : St → Option LR := L2 19 2 0 za3r .ret zask (.exit 0) zasl (fun s => zah s.1 s.2.1 s.2.2)
theorem za3s : zq (zy91).env 0 (sub zc91 [0, 1, 0, 1]) zawi :=
  zn2 (A := za3q) zh91 Facts.mix trivial (k := zci (sub zc91 [0, 1, 0, 1])) (by kernel_rfl) rfl rfl (by rintro ⟨x0, x1, x2⟩; kernel_rfl)
def za91 : Ann := ⟨[([0, 1, 0, 1], zawi)], [], [], zv91, []⟩
def zaq (a0 : (List Packet)) : Tr (Int) :=
  (.two (zew a0 ((a0.length : Nat) : Int) 0) (fun v2 =>
    (.leaf v2)) (fun v3 =>
    (.leaf (-1))))
def zda (a0 : (List Packet)) : Option (Int) := (zaq a0).run
def zr91 : LQ ((List Packet)) := (LQ.skipR (Par.q zdv) (LQ.const (.fn 54 [])))
def zf2 : LQ (Int) := (Par.q intP)
def zgp : SpecT := zv 0 zr91 2 [] (fun s => zaq s) default zf2 1 []
theorem znl : zi Tryz.prog 73 (zgp).spec :=
  zf (A := za91) zh91 Facts.mix Tryz.func73 (c := zc91) (by kernel_rfl) (Lc := 0) ⟨za3s, trivial⟩ zr91 2 2 [] (fun s => zaq s) default zf2 1 [] [] (by decide) (by kernel_rfl) (by rfl) (by decide) (by decide) (by rfl)
    (by rintro a0; kernel_rfl)
noncomputable def zc92 : Code := Tryz.f53.body.getD .skip
def zv92 : List (List Nat) := [[0, 1], [4]]
noncomputable def zy92 : EnvT := ⟨Tryz.prog, zr [(73, zgp)]⟩
theorem zh92 : (zy92).Ok := ze ⟨znl, trivial⟩
def za92 : Ann := ⟨[], [], [], zv92, []⟩
def zbe (a0 : (List Packet)) : Tr (Bool) :=
  (.bind (zda a0) fun v1 =>
  (.leaf (decide (v1 ≥ 0))))
def zb5 (a0 : (List Packet)) : Option (Bool) := (zbe a0).run
def zr92 : LQ ((List Packet)) := (LQ.skipR (Par.q zdv) (LQ.const (.fn 54 [])))
def zex : LQ (Bool) := (Par.q boolP)
def zff : SpecT := zv 0 zr92 2 [] (fun s => zbe s) default zex 1 []
theorem zkz : zi Tryz.prog 53 (zff).spec :=
  zf (A := za92) zh92 Facts.mix Tryz.func53 (c := zc92) (by kernel_rfl) (Lc := 0) trivial zr92 2 2 [] (fun s => zbe s) default zex 1 [] [] (by decide) (by kernel_rfl) (by rfl) (by decide) (by decide) (by rfl)
    (by rintro a0; kernel_rfl)
noncomputable def zc93 : Code := Tryz.f24.body.getD .skip
def zv93 : List (List Nat) := [[1], [1, 48], [2], [1, 50, 51, 52], [1, 50, 51, 52, 53], [1, 3, 4, 50, 51, 52], [1, 50, 51, 52, 90], [2], [1, 50, 51, 52], [1, 93, 94, 95], [1, 93, 94, 95, 96], [1, 6, 93, 94, 95], [1, 93, 94, 95, 111], [2], [1, 93, 94, 95], [2]]
noncomputable def zy93 : EnvT := ⟨Tryz.prog, zr [(52, zl3), (53, zff)]⟩
theorem zh93 : (zy93).Ok := ze ⟨znh, zkz, trivial⟩
def zg8 (x0 : (List Power)) (x1 : Int) (x2 : Int) (x3 : zb) : Tr (((List Power) × Int × Int × zb) ⊕ ((Bool) ⊕ (zb))) :=
  (.ite (decide (x2 < x1))
    (.guard ((0 : Int) ≤ x2 ∧ x2 < ((Sl.len (.powers x0) : Nat) : Int))
    (.guard (((decide (x2 > 0)) = true → (((decide (((x0.getD x2.toNat default).V) < 0)) || (decide (((x0.getD x2.toNat default).V) ≥ 6))) = false → ((0 : Int) ≤ (IntKind.i64.wrap (x2 - 1)) ∧ (IntKind.i64.wrap (x2 - 1)) < ((Sl.len (.powers x3.Set) : Nat) : Int)) ∧ True)))
    (.ite (((((decide (((x0.getD x2.toNat default).V) < 0)) || (decide (((x0.getD x2.toNat default).V) ≥ 6))) || ((decide (x2 > 0)) && (decide (((x3.Set.getD ((IntKind.i64.wrap (x2 - 1)).toNat) default).V) ≥ ((x0.getD x2.toNat default).V))))) || (decide (((x0.getD x2.toNat default).N) < 1))) || (decide (((x0.getD x2.toNat default).N) > 1125899906842624)))
      (.leaf (.inr (.inl false)))
      (.leaf (.inl (x0, x1, IntKind.i64.wrap (x2 + 1), x3))))))
    (.leaf (.inr (.inr x3))))
def zp8 (x0 : (List Power)) (x1 : Int) (x2 : Int) (x3 : zb) : Option ((Bool) ⊕ (zb)) := zeh (fun s : (List Power) × Int × Int × zb => (zg8 s.1 s.2.1 s.2.2.1 s.2.2.2).run) (x0, x1, x2, x3)
def za3w : Ann := ⟨[], [], [], zv93, []⟩
def za3x : EndD ((List Power) × Int × Int × zb) := ⟨(LQ.skip (LQ.const (.ptr 0 0)) (LQ.seq (Par.q zm) (LQ.seq (Par.q intP) (LQ.seq (Par.q intP) (LP.q z8))))), ⟨[1, 50, 51, 52], [.pub 50, .nilsl 50 (.powers [])]⟩, [.cells 71 22]⟩
def zasm : EndD (Bool) := ⟨(Par.q boolP), ⟨[2], []⟩, []⟩
def zasn : EndD (zb) := ⟨(LQ.skip (LQ.const (.ptr 0 0)) (LP.q z8)), ⟨[1], []⟩, [.cells 71 22]⟩
def zawk : St → Option LR := L2 117 4 0 za3x .ret zasm (.exit 0) zasn (fun s => zg8 s.1 s.2.1 s.2.2.1 s.2.2.2)
theorem za3y : zq (zy93).env 0 (sub zc93 [0, 1, 0, 1, 1]) zawk :=
  zn2 (A := za3w) zh93 Facts.mix trivial (k := zci (sub zc93 [0, 1, 0, 1, 1])) (by kernel_rfl) rfl rfl (by rintro ⟨x0, x1, x2, x3⟩; kernel_rfl)
def zdk (x0 : (List Ripe)) (x1 : Int) (x2 : Int) (x3 : zb) : Tr (((List Ripe) × Int × Int × zb) ⊕ ((Bool) ⊕ (zb))) :=
  (.ite (decide (x2 < x1))
    (.guard ((0 : Int) ≤ x2 ∧ x2 < ((Sl.len (.ripes x0) : Nat) : Int))
    (.ite (((decide (((x0.getD x2.toNat default).Id) < 1)) || (decide (((x0.getD x2.toNat default).Id) > 1099511627776))) || (decide (((x0.getD x2.toNat default).Due) < 0)))
      (.leaf (.inr (.inl false)))
      (.leaf (.inl (x0, x1, IntKind.i64.wrap (x2 + 1), x3)))))
    (.leaf (.inr (.inr x3))))
def zjz (x0 : (List Ripe)) (x1 : Int) (x2 : Int) (x3 : zb) : Option ((Bool) ⊕ (zb)) := zeh (fun s : (List Ripe) × Int × Int × zb => (zdk s.1 s.2.1 s.2.2.1 s.2.2.2).run) (x0, x1, x2, x3)
def za3z : Ann := ⟨[], [], [], zv93, []⟩
def za38 : EndD ((List Ripe) × Int × Int × zb) := ⟨(LQ.skip (LQ.const (.ptr 0 0)) (LQ.seq (Par.q zyf) (LQ.seq (Par.q intP) (LQ.seq (Par.q intP) (LP.q z8))))), ⟨[1, 93, 94, 95], [.pub 93, .nilsl 93 (.ripes [])]⟩, [.cells 71 22]⟩
def zaso : EndD (Bool) := ⟨(Par.q boolP), ⟨[2], []⟩, []⟩
def zasp : EndD (zb) := ⟨(LQ.skip (LQ.const (.ptr 0 0)) (LP.q z8)), ⟨[1], []⟩, [.cells 71 22]⟩
def zawl : St → Option LR := L2 117 4 0 za38 .ret zaso (.exit 2) zasp (fun s => zdk s.1 s.2.1 s.2.2.1 s.2.2.2)
theorem za4c : zq (zy93).env 0 (sub zc93 [0, 1, 0, 1, 1, 1]) zawl :=
  zn2 (A := za3z) zh93 Facts.mix trivial (k := zci (sub zc93 [0, 1, 0, 1, 1, 1])) (by kernel_rfl) rfl rfl (by rintro ⟨x0, x1, x2, x3⟩; kernel_rfl)
def za93 : Ann := ⟨[([0, 1, 0, 1, 1], zawk), ([0, 1, 0, 1, 1, 1], zawl)], [], [], zv93, []⟩
def zk0 (a0 : zb) : Tr (Bool) :=
  (.guard (((((((((a0.On && a0.Gone) || (decide (a0.Height < 0))) || (decide (a0.Height ≥ 1099511627776))) || (decide (a0.Time < 0))) || (decide (a0.Time > 1099511627776))) || (decide (a0.Id < 0))) || (decide (a0.Id > 1099511627776))) = false → ((zet a0.Out).isSome = true) ∧ True))
  (.ite ((((((((a0.On && a0.Gone) || (decide (a0.Height < 0))) || (decide (a0.Height ≥ 1099511627776))) || (decide (a0.Time < 0))) || (decide (a0.Time > 1099511627776))) || (decide (a0.Id < 0))) || (decide (a0.Id > 1099511627776))) || (!((zet a0.Out).getD default)))
    (.leaf false)
    (.two (zp8 a0.Set ((a0.Set.length : Nat) : Int) 0 a0) (fun v1 =>
      (.leaf v1)) (fun v2 =>
      (.two (zjz v2.Ripes ((v2.Ripes.length : Nat) : Int) 0 v2) (fun v3 =>
        (.leaf v3)) (fun v4 =>
        (.bind (zb5 v4.Pending) fun v5 =>
        (.leaf (!v5)))))))))
def zeq (a0 : zb) : Option (Bool) := (zk0 a0).run
def zr93 : LQ (zb) := (Par.q (Par.ofLP z8))
def zuy : LQ (Bool) := (Par.q boolP)
def zhn : SpecT := zv 0 zr93 1 [] (fun s => zk0 s) default zuy 1 []
theorem zjl : zi Tryz.prog 24 (zhn).spec :=
  zf (A := za93) zh93 Facts.mix Tryz.func24 (c := zc93) (by kernel_rfl) (Lc := 0) ⟨za3y, za4c, trivial⟩ zr93 1 4 [] (fun s => zk0 s) default zuy 1 [] [] (by decide) (by kernel_rfl) (by rfl) (by decide) (by decide) (by rfl)
    (by rintro a0; kernel_rfl)
noncomputable def zc94 : Code := Tryz.f83.body.getD .skip
def zv94 : List (List Nat) := [[0, 1, 2, 6], [6]]
noncomputable def zy94 : EnvT := ⟨Tryz.prog, zr [(102, zkd)]⟩
theorem zh94 : (zy94).Ok := ze ⟨zsj, trivial⟩
def za94 : Ann := ⟨[], [], [], zv94, []⟩
def zjm (a0 : (List Power)) (a1 : Int) (a2 : Int) : Tr (zb) :=
  (.bind (ze9 a0) fun v1 =>
  (.leaf (⟨true, false, 0, a2, a1, v1, [], [], (⟨false, false, false, false, false, false⟩ : (A6 Bool)), (⟨[], [], 0, false⟩ : zeg), (⟨0, 0, 0, 0⟩ : z7w)⟩ : zb)))
def zie (a0 : (List Power)) (a1 : Int) (a2 : Int) : Option (zb) := (zjm a0 a1 a2).run
def zr94 : LQ ((List Power) × Int × Int) := (LQ.seq (Par.q zm) (LQ.seq (Par.q intP) (Par.q intP)))
def zs1 : LQ (zb) := (Par.q (Par.ofLP z8))
def zuz : SpecT := zv 0 zr94 3 [] (fun s => zjm s.1 s.2.1 s.2.2) default zs1 1 []
theorem z2b : zi Tryz.prog 83 (zuz).spec :=
  zf (A := za94) zh94 Facts.mix Tryz.func83 (c := zc94) (by kernel_rfl) (Lc := 0) trivial zr94 3 4 [] (fun s => zjm s.1 s.2.1 s.2.2) default zs1 1 [] [.pubB 6] (by decide) (by kernel_rfl) (by rfl) (by decide) (by decide) (by rfl)
    (by rintro ⟨a0, a1, a2⟩; kernel_rfl)
noncomputable def zc95 : Code := Tryz.f108.body.getD .skip
def zv95 : List (List Nat) := [[1, 2, 4], [2, 4, 6, 7], [2, 4, 6, 7, 13], [4, 5], [2, 4, 6, 7, 18], [4, 5], [2, 4, 6, 7, 23], [4, 5], [2, 4, 6, 28], [4, 5], [2, 4], [4, 5]]
noncomputable def zy95 : EnvT := ⟨Tryz.prog, zr [(37, zmu), (24, zhn), (135, zi7)]⟩
theorem zh95 : (zy95).Ok := ze ⟨zp1, zjl, zqo, trivial⟩
def za95 : Ann := ⟨[], [], [], zv95, []⟩
def zk1 (a0 : zb) (a1 : ByteArray) : Tr (zb × Int) :=
  (.bind (zcz a1) fun v1 =>
  (.bind (zeq a0) fun v2 =>
  (.ite (!v2)
    (.leaf (a0, 2))
    (.ite (!a0.On)
      (.leaf (a0, 4))
      (.ite (v1.2 != 0)
        (.leaf (a0, v1.2))
        (.ite (v1.1.Kind != 1)
          (.leaf (a0, 3))
          (.guard ((zbk a0.Pending).isSome = true)
          (.guard ((Sl.len (.packets ((zbk a0.Pending).getD default)) + Sl.len (.packets [v1.1])) * 80 ≤ 140737488355328)
          (.leaf ({ (a0 : zb) with Pending := ((zbk a0.Pending).getD default) ++ [v1.1] }, 0))))))))))
def zjn (a0 : zb) (a1 : ByteArray) : Option (zb × Int) := (zk1 a0 a1).run
def zr95 : LQ (zb × ByteArray) := (LQ.seq (Par.q (Par.ofLP z8)) (Par.q strP))
def zu0 : LQ (zb × Int) := (LQ.seq (Par.q (Par.ofLP z8)) (Par.q intP))
def zwo : SpecT := zv 0 zr95 2 [] (fun s => zk1 s.1 s.2) default zu0 2 []
theorem z3s : zi Tryz.prog 108 (zwo).spec :=
  zf (A := za95) zh95 Facts.mix Tryz.func108 (c := zc95) (by kernel_rfl) (Lc := 0) trivial zr95 2 8 [] (fun s => zk1 s.1 s.2) default zu0 2 [] [.pubB 4] (by decide) (by kernel_rfl) (by rfl) (by decide) (by decide) (by rfl)
    (by rintro ⟨a0, a1⟩; kernel_rfl)
noncomputable def zc96 : Code := Tryz.f104.body.getD .skip
def zv96 : List (List Nat) := [[0, 2, 4], [0, 2, 7, 8], [0, 2, 7, 8, 16], [6], [0, 8, 9], [0, 8, 9, 30], [6], [], [6]]
noncomputable def zy96 : EnvT := ⟨Tryz.prog, zr [(28, zms), (133, z19)]⟩
theorem zh96 : (zy96).Ok := ze ⟨zp0, z5o, trivial⟩
def za96 : Ann := ⟨[], [], [], zv96, []⟩
def zmw (a0 : Packet) (a1 : Int) (a2 : zb) : Tr (Int × zb) :=
  (.bind (zbn a0) fun v1 =>
  (.ite (v1.2 != 0)
    (.leaf (v1.2, a2))
    (.bind (zt3 a2.Out v1.1 (IntKind.i64.wrap (a1 + 40))) fun v2 =>
    (.ite (v2.2 != 0)
      (.leaf (v2.2, a2))
      (.leaf (0, { (a2 : zb) with Out := v2.1 }))))))
def zbo (a0 : Packet) (a1 : Int) (a2 : zb) : Option (Int × zb) := (zmw a0 a1 a2).run
def zr96 : LQ (Packet × Int × zb) := (LQ.skip (LQ.const (.ptr 0 0)) (LQ.seq (Par.q (Par.ofLP zl0)) (LQ.seq (Par.q intP) (LP.q z8))))
def zwp : LQ (Int × zb) := (LQ.seq (Par.q intP) (LP.q z8))
def zmx : SpecT := zv 1 zr96 3 [.cells 71 22] (fun s => zmw s.1 s.2.1 s.2.2) default zwp 1 [.cells 71 22]
theorem zp9 : zi Tryz.prog 104 (zmx).spec :=
  zf (A := za96) zh96 Facts.mix Tryz.func104 (c := zc96) (by kernel_rfl) (Lc := 1) trivial zr96 3 5 [.cells 71 22] (fun s => zmw s.1 s.2.1 s.2.2) default zwp 1 [.cells 71 22] [.pubN 0] (by decide) (by kernel_rfl) (by rfl) (by decide) (by decide) (by rfl)
    (by rintro ⟨a0, a1, a2⟩; kernel_rfl)
noncomputable def zc97 : Code := Tryz.f112.body.getD .skip
def zv97 : List (List Nat) := [[0, 1], [1, 7, 8, 9], [1, 7, 8, 9, 10], [1, 6, 7, 8, 9], [1, 6, 7, 8, 9, 16], [4], [1, 7, 8, 9], [4]]
noncomputable def zy97 : EnvT := ⟨Tryz.prog, zr []⟩
theorem zh97 : (zy97).Ok := ze trivial
def zd5 (x0 : Int) (x1 : (List Power)) (x2 : Int) (x3 : Int) : Tr ((Int × (List Power) × Int × Int) ⊕ ((Int) ⊕ (Unit))) :=
  (.ite (decide (x3 < x2))
    (.guard ((0 : Int) ≤ x3 ∧ x3 < ((Sl.len (.powers x1) : Nat) : Int))
    (.ite (((x1.getD x3.toNat default).V) == x0)
      (.leaf (.inr (.inl ((x1.getD x3.toNat default).N))))
      (.leaf (.inl (x0, x1, x2, IntKind.i64.wrap (x3 + 1))))))
    (.leaf (.inr (.inr ()))))
def zod (x0 : Int) (x1 : (List Power)) (x2 : Int) (x3 : Int) : Option ((Int) ⊕ (Unit)) := zeh (fun s : Int × (List Power) × Int × Int => (zd5 s.1 s.2.1 s.2.2.1 s.2.2.2).run) (x0, x1, x2, x3)
def za4e : Ann := ⟨[], [], [], zv97, []⟩
def za4f : EndD (Int × (List Power) × Int × Int) := ⟨(LQ.seq (Par.q intP) (LQ.seq (Par.q zm) (LQ.seq (Par.q intP) (Par.q intP)))), ⟨[1, 7, 8, 9], [.pub 7, .nilsl 7 (.powers [])]⟩, []⟩
def zasq : EndD (Int) := ⟨(Par.q intP), ⟨[4], []⟩, []⟩
def zasr : EndD (Unit) := ⟨LQ.nil, ⟨[], []⟩, []⟩
def zawm : St → Option LR := L2 20 3 0 za4f .ret zasq (.exit 0) zasr (fun s => zd5 s.1 s.2.1 s.2.2.1 s.2.2.2)
theorem za4g : zq (zy97).env 0 (sub zc97 [0, 1, 0, 1]) zawm :=
  zn2 (A := za4e) zh97 Facts.mix trivial (k := zci (sub zc97 [0, 1, 0, 1])) (by kernel_rfl) rfl rfl (by rintro ⟨x0, x1, x2, x3⟩; kernel_rfl)
def za97 : Ann := ⟨[([0, 1, 0, 1], zawm)], [], [], zv97, []⟩
def zjo (a0 : (List Power)) (a1 : Int) : Tr (Int) :=
  (.two (zod a1 a0 ((a0.length : Nat) : Int) 0) (fun v1 =>
    (.leaf v1)) (fun v2 =>
    (.leaf 0)))
def zaa (a0 : (List Power)) (a1 : Int) : Option (Int) := (zjo a0 a1).run
def zr97 : LQ ((List Power) × Int) := (LQ.seq (Par.q zm) (Par.q intP))
def zs2 : LQ (Int) := (Par.q intP)
def zn7 : SpecT := zv 0 zr97 2 [] (fun s => zjo s.1 s.2) default zs2 1 []
theorem zs3 : zi Tryz.prog 112 (zn7).spec :=
  zf (A := za97) zh97 Facts.mix Tryz.func112 (c := zc97) (by kernel_rfl) (Lc := 0) ⟨za4g, trivial⟩ zr97 2 3 [] (fun s => zjo s.1 s.2) default zs2 1 [] [] (by decide) (by kernel_rfl) (by rfl) (by decide) (by decide) (by rfl)
    (by rintro ⟨a0, a1⟩; kernel_rfl)
noncomputable def zc98 : Code := Tryz.f84.body.getD .skip
def zv98 : List (List Nat) := [[1, 2, 4], [1, 2, 4, 10], [4, 5], [1, 2, 4, 15], [4, 5], [1, 2, 4, 20], [4, 5], [1, 2, 4], [1, 2, 4], [1, 2, 4, 41, 42, 43], [1, 2, 4, 41, 42, 43, 44], [1, 2, 4, 7, 41, 42, 43], [1, 2, 4, 7, 41, 42, 43], [1, 2, 4, 7, 41, 42, 43], [1, 2, 4, 7, 41, 42, 43, 57, 58, 59], [1, 2, 4, 7, 41, 42, 43, 57, 58, 59, 60], [1, 2, 4, 7, 9, 41, 42, 43, 57, 58, 59], [1, 2, 4, 7, 41, 42, 43, 57, 58, 59], [1, 2, 4, 7, 41, 42, 43, 57, 58, 59], [1, 2, 4, 41, 42, 43], [1, 2, 4, 41, 42, 43], [1, 2, 4], [1, 2, 4, 91], [1, 2, 4, 100], [1, 2, 4], [4, 5]]
noncomputable def zy98 : EnvT := ⟨Tryz.prog, zr [(24, zhn), (103, zkp), (36, zt9), (104, zmx)]⟩
theorem zh98 : (zy98).Ok := ze ⟨zjl, zsy, zyz, zp9, trivial⟩
def zft (x0 : Int) (x1 : (List Packet)) (x2 : Int) (x3 : Int) (x4 : (List Int)) (x5 : Int) (x6 : Int) (x7 : zb) (x8 : zb) (x9 : Packet) : Tr ((Int × (List Packet) × Int × Int × (List Int) × Int × Int × zb × zb × Packet) ⊕ (Int × (List Packet) × Int × Int × zb × zb × Packet)) :=
  (.ite (decide (x6 < x5))
    (.guard ((0 : Int) ≤ x6 ∧ x6 < ((Sl.len (.ints x4) : Nat) : Int))
    (.guard ((0 : Int) ≤ (x4.getD x6.toNat 0) ∧ ((x4.getD x6.toNat 0) : Int) < 6)
    (.leaf (.inl (x0, x1, x2, x3, x4, x5, IntKind.i64.wrap (x6 + 1), { (x7 : zb) with Flags := (x7.Flags.set (x4.getD x6.toNat 0) false) }, x8, x9)))))
    (.leaf (.inr (x0, x1, x2, x3, x7, x8, x9))))
def zk2 (x0 : Int) (x1 : (List Packet)) (x2 : Int) (x3 : Int) (x4 : (List Int)) (x5 : Int) (x6 : Int) (x7 : zb) (x8 : zb) (x9 : Packet) : Option (Int × (List Packet) × Int × Int × zb × zb × Packet) := zeh (fun s : Int × (List Packet) × Int × Int × (List Int) × Int × Int × zb × zb × Packet => (zft s.1 s.2.1 s.2.2.1 s.2.2.2.1 s.2.2.2.2.1 s.2.2.2.2.2.1 s.2.2.2.2.2.2.1 s.2.2.2.2.2.2.2.1 s.2.2.2.2.2.2.2.2.1 s.2.2.2.2.2.2.2.2.2).run) (x0, x1, x2, x3, x4, x5, x6, x7, x8, x9)
def za4h : Ann := ⟨[], [], [], zv98, [(23, [800002])]⟩
def za4i : EndD (Int × (List Packet) × Int × Int × (List Int) × Int × Int × zb × zb × Packet) := ⟨(LQ.map (LQ.seq (Par.q intP) (LQ.skip (LQ.const (.ptr 0 0)) (LQ.skip (LQ.const (.ptr 1 0)) (LQ.skip (LQ.const (.ptr 2 0)) (LQ.seq (Par.q zdv) (LQ.seq (Par.q intP) (LQ.seq (Par.q intP) (LQ.seq (Par.q zhg) (LQ.seq (Par.q intP) (LQ.seq (Par.q intP) (LQ.seq (Par.q boolP) (LQ.seq (Par.q boolP) (LQ.seq (Par.q intP) (LQ.seq (Par.q intP) (LQ.seq (Par.q intP) (LQ.seq (Par.q zm) (LQ.seq (Par.q zdv) (LQ.skip (LQ.const (.own 3)) (LQ.seq (LP.q (a6L (LP.one boolP))) (LQ.seq (LP.q lineL) (LQ.seq (LP.q z9e) (LQ.seq (LP.q z8) (LQ.seq (LP.q zl0) (Par.q zyf)))))))))))))))))))))))) (fun x : Int × (List Packet) × Int × Int × (List Int) × Int × Int × Bool × Bool × Int × Int × Int × (List Power) × (List Packet) × (A6 Bool) × zeg × z7w × zb × Packet × (List Ripe) => ((x.1, x.2.1, x.2.2.1, x.2.2.2.1, x.2.2.2.2.1, x.2.2.2.2.2.1, x.2.2.2.2.2.2.1, (⟨x.2.2.2.2.2.2.2.1, x.2.2.2.2.2.2.2.2.1, x.2.2.2.2.2.2.2.2.2.1, x.2.2.2.2.2.2.2.2.2.2.1, x.2.2.2.2.2.2.2.2.2.2.2.1, x.2.2.2.2.2.2.2.2.2.2.2.2.1, x.2.2.2.2.2.2.2.2.2.2.2.2.2.1, x.2.2.2.2.2.2.2.2.2.2.2.2.2.2.2.2.2.2.2, x.2.2.2.2.2.2.2.2.2.2.2.2.2.2.1, x.2.2.2.2.2.2.2.2.2.2.2.2.2.2.2.1, x.2.2.2.2.2.2.2.2.2.2.2.2.2.2.2.2.1⟩ : zb), x.2.2.2.2.2.2.2.2.2.2.2.2.2.2.2.2.2.1, x.2.2.2.2.2.2.2.2.2.2.2.2.2.2.2.2.2.2.1) : Int × (List Packet) × Int × Int × (List Int) × Int × Int × zb × zb × Packet)) (fun y => (y.1, y.2.1, y.2.2.1, y.2.2.2.1, y.2.2.2.2.1, y.2.2.2.2.2.1, y.2.2.2.2.2.2.1, y.2.2.2.2.2.2.2.1.On, y.2.2.2.2.2.2.2.1.Gone, y.2.2.2.2.2.2.2.1.Height, y.2.2.2.2.2.2.2.1.Time, y.2.2.2.2.2.2.2.1.Id, y.2.2.2.2.2.2.2.1.Set, y.2.2.2.2.2.2.2.1.Pending, y.2.2.2.2.2.2.2.1.Flags, y.2.2.2.2.2.2.2.1.Out, y.2.2.2.2.2.2.2.1.Seen, y.2.2.2.2.2.2.2.2.1, y.2.2.2.2.2.2.2.2.2, y.2.2.2.2.2.2.2.1.Ripes)) (fun _ => rfl)), ⟨[1, 2, 4, 7, 41, 42, 43, 57, 58, 59], [.nilcell 2 7 103 (.ripes []), .pub 41, .nilsl 41 (.packets []), .pub 57, .nilsl 57 (.ints [])]⟩, [.cells 71 22, .cells 71 22, .cells 79 6, .rows 103]⟩
def zast : EndD (Int × (List Packet) × Int × Int × zb × zb × Packet) := ⟨(LQ.map (LQ.seq (Par.q intP) (LQ.skip (LQ.const (.ptr 0 0)) (LQ.skip (LQ.const (.ptr 1 0)) (LQ.skip (LQ.const (.ptr 2 0)) (LQ.seq (Par.q zdv) (LQ.seq (Par.q intP) (LQ.seq (Par.q intP) (LQ.seq (Par.q boolP) (LQ.seq (Par.q boolP) (LQ.seq (Par.q intP) (LQ.seq (Par.q intP) (LQ.seq (Par.q intP) (LQ.seq (Par.q zm) (LQ.seq (Par.q zdv) (LQ.skip (LQ.const (.own 3)) (LQ.seq (LP.q (a6L (LP.one boolP))) (LQ.seq (LP.q lineL) (LQ.seq (LP.q z9e) (LQ.seq (LP.q z8) (LQ.seq (LP.q zl0) (Par.q zyf))))))))))))))))))))) (fun x : Int × (List Packet) × Int × Int × Bool × Bool × Int × Int × Int × (List Power) × (List Packet) × (A6 Bool) × zeg × z7w × zb × Packet × (List Ripe) => ((x.1, x.2.1, x.2.2.1, x.2.2.2.1, (⟨x.2.2.2.2.1, x.2.2.2.2.2.1, x.2.2.2.2.2.2.1, x.2.2.2.2.2.2.2.1, x.2.2.2.2.2.2.2.2.1, x.2.2.2.2.2.2.2.2.2.1, x.2.2.2.2.2.2.2.2.2.2.1, x.2.2.2.2.2.2.2.2.2.2.2.2.2.2.2.2, x.2.2.2.2.2.2.2.2.2.2.2.1, x.2.2.2.2.2.2.2.2.2.2.2.2.1, x.2.2.2.2.2.2.2.2.2.2.2.2.2.1⟩ : zb), x.2.2.2.2.2.2.2.2.2.2.2.2.2.2.1, x.2.2.2.2.2.2.2.2.2.2.2.2.2.2.2.1) : Int × (List Packet) × Int × Int × zb × zb × Packet)) (fun y => (y.1, y.2.1, y.2.2.1, y.2.2.2.1, y.2.2.2.2.1.On, y.2.2.2.2.1.Gone, y.2.2.2.2.1.Height, y.2.2.2.2.1.Time, y.2.2.2.2.1.Id, y.2.2.2.2.1.Set, y.2.2.2.2.1.Pending, y.2.2.2.2.1.Flags, y.2.2.2.2.1.Out, y.2.2.2.2.1.Seen, y.2.2.2.2.2.1, y.2.2.2.2.2.2, y.2.2.2.2.1.Ripes)) (fun _ => rfl)), ⟨[1, 2, 4, 7, 41, 42, 43], [.nilcell 2 7 103 (.ripes []), .pub 41, .nilsl 41 (.packets [])]⟩, [.cells 71 22, .cells 71 22, .cells 79 6, .rows 103]⟩
def zawn : St → Option LR := L1 106 8 0 za4i (.exit 3) zast (fun s => zft s.1 s.2.1 s.2.2.1 s.2.2.2.1 s.2.2.2.2.1 s.2.2.2.2.2.1 s.2.2.2.2.2.2.1 s.2.2.2.2.2.2.2.1 s.2.2.2.2.2.2.2.2.1 s.2.2.2.2.2.2.2.2.2)
theorem za4j : zq (zy98).env 0 (sub zc98 [0, 1, 0, 1, 1, 1, 0, 0, 1, 1, 0, 0, 1, 0, 1, 1, 1, 1]) zawn :=
  ziy (A := za4h) zh98 Facts.mix trivial (k := zci (sub zc98 [0, 1, 0, 1, 1, 1, 0, 0, 1, 1, 0, 0, 1, 0, 1, 1, 1, 1])) (by kernel_rfl) rfl (by rintro ⟨x0, x1, x2, x3, x4, x5, x6, x7, x8, x9⟩; kernel_rfl)
def zfu (x0 : Int) (x1 : (List Packet)) (x2 : Int) (x3 : Int) (x4 : zb) (x5 : zb) : Tr ((Int × (List Packet) × Int × Int × zb × zb) ⊕ (Int × zb × zb)) :=
  (.ite (decide (x3 < x2))
    (.guard ((0 : Int) ≤ x3 ∧ x3 < ((Sl.len (.packets x1) : Nat) : Int))
    (.bind (zfa x4.Set ((x1.getD x3.toNat default).Set)) fun v3 =>
    (.bind (zk2 x0 x1 x2 x3 ((x1.getD x3.toNat default).Done) ((((x1.getD x3.toNat default).Done).length : Nat) : Int) 0 ({ (x4 : zb) with Id := (x1.getD x3.toNat default).Id, Set := v3 }) x5 (x1.getD x3.toNat default)) fun v4 =>
    (.guard ((Sl.len (.ripes v4.2.2.2.2.1.Ripes) + Sl.len (.ripes [(⟨v4.2.2.2.2.2.2.Id, IntKind.i64.wrap (v4.1 + 15)⟩ : Ripe)])) * 16 ≤ 140737488355328)
    (.leaf (.inl (v4.1, v4.2.1, v4.2.2.1, IntKind.i64.wrap (v4.2.2.2.1 + 1), { (v4.2.2.2.2.1 : zb) with Ripes := v4.2.2.2.2.1.Ripes ++ [(⟨v4.2.2.2.2.2.2.Id, IntKind.i64.wrap (v4.1 + 15)⟩ : Ripe)] }, v4.2.2.2.2.2.1)))))))
    (.leaf (.inr (x0, x4, x5))))
def zk3 (x0 : Int) (x1 : (List Packet)) (x2 : Int) (x3 : Int) (x4 : zb) (x5 : zb) : Option (Int × zb × zb) := zeh (fun s : Int × (List Packet) × Int × Int × zb × zb => (zfu s.1 s.2.1 s.2.2.1 s.2.2.2.1 s.2.2.2.2.1 s.2.2.2.2.2).run) (x0, x1, x2, x3, x4, x5)
def za4k : Ann := ⟨[([0, 1, 0, 1, 1, 1, 0, 0, 1, 1, 0, 0, 1, 0, 1, 1, 1, 1], zawn)], [], [], zv98, [(23, [800002])]⟩
def za4l : EndD (Int × (List Packet) × Int × Int × zb × zb) := ⟨(LQ.map (LQ.seq (Par.q intP) (LQ.skip (LQ.const (.ptr 0 0)) (LQ.skip (LQ.const (.ptr 1 0)) (LQ.seq (Par.q zdv) (LQ.seq (Par.q intP) (LQ.seq (Par.q intP) (LQ.seq (Par.q boolP) (LQ.seq (Par.q boolP) (LQ.seq (Par.q intP) (LQ.seq (Par.q intP) (LQ.seq (Par.q intP) (LQ.seq (Par.q zm) (LQ.seq (Par.q zdv) (LQ.skip (LQ.const (.own 2)) (LQ.seq (LP.q (a6L (LP.one boolP))) (LQ.seq (LP.q lineL) (LQ.seq (LP.q z9e) (LQ.seq (LP.q z8) (Par.q zyf))))))))))))))))))) (fun x : Int × (List Packet) × Int × Int × Bool × Bool × Int × Int × Int × (List Power) × (List Packet) × (A6 Bool) × zeg × z7w × zb × (List Ripe) => ((x.1, x.2.1, x.2.2.1, x.2.2.2.1, (⟨x.2.2.2.2.1, x.2.2.2.2.2.1, x.2.2.2.2.2.2.1, x.2.2.2.2.2.2.2.1, x.2.2.2.2.2.2.2.2.1, x.2.2.2.2.2.2.2.2.2.1, x.2.2.2.2.2.2.2.2.2.2.1, x.2.2.2.2.2.2.2.2.2.2.2.2.2.2.2, x.2.2.2.2.2.2.2.2.2.2.2.1, x.2.2.2.2.2.2.2.2.2.2.2.2.1, x.2.2.2.2.2.2.2.2.2.2.2.2.2.1⟩ : zb), x.2.2.2.2.2.2.2.2.2.2.2.2.2.2.1) : Int × (List Packet) × Int × Int × zb × zb)) (fun y => (y.1, y.2.1, y.2.2.1, y.2.2.2.1, y.2.2.2.2.1.On, y.2.2.2.2.1.Gone, y.2.2.2.2.1.Height, y.2.2.2.2.1.Time, y.2.2.2.2.1.Id, y.2.2.2.2.1.Set, y.2.2.2.2.1.Pending, y.2.2.2.2.1.Flags, y.2.2.2.2.1.Out, y.2.2.2.2.1.Seen, y.2.2.2.2.2, y.2.2.2.2.1.Ripes)) (fun _ => rfl)), ⟨[1, 2, 4, 41, 42, 43], [.nilcell 2 7 103 (.ripes []), .pub 41, .nilsl 41 (.packets [])]⟩, [.cells 71 22, .cells 71 22, .rows 103]⟩
def zasu : EndD (Int × zb × zb) := ⟨(LQ.map (LQ.seq (Par.q intP) (LQ.skip (LQ.const (.ptr 0 0)) (LQ.skip (LQ.const (.ptr 1 0)) (LQ.seq (Par.q boolP) (LQ.seq (Par.q boolP) (LQ.seq (Par.q intP) (LQ.seq (Par.q intP) (LQ.seq (Par.q intP) (LQ.seq (Par.q zm) (LQ.seq (Par.q zdv) (LQ.skip (LQ.const (.own 2)) (LQ.seq (LP.q (a6L (LP.one boolP))) (LQ.seq (LP.q lineL) (LQ.seq (LP.q z9e) (LQ.seq (LP.q z8) (Par.q zyf)))))))))))))))) (fun x : Int × Bool × Bool × Int × Int × Int × (List Power) × (List Packet) × (A6 Bool) × zeg × z7w × zb × (List Ripe) => ((x.1, (⟨x.2.1, x.2.2.1, x.2.2.2.1, x.2.2.2.2.1, x.2.2.2.2.2.1, x.2.2.2.2.2.2.1, x.2.2.2.2.2.2.2.1, x.2.2.2.2.2.2.2.2.2.2.2.2, x.2.2.2.2.2.2.2.2.1, x.2.2.2.2.2.2.2.2.2.1, x.2.2.2.2.2.2.2.2.2.2.1⟩ : zb), x.2.2.2.2.2.2.2.2.2.2.2.1) : Int × zb × zb)) (fun y => (y.1, y.2.1.On, y.2.1.Gone, y.2.1.Height, y.2.1.Time, y.2.1.Id, y.2.1.Set, y.2.1.Pending, y.2.1.Flags, y.2.1.Out, y.2.1.Seen, y.2.2, y.2.1.Ripes)) (fun _ => rfl)), ⟨[1, 2, 4], [.nilcell 2 7 103 (.ripes [])]⟩, [.cells 71 22, .cells 71 22, .rows 103]⟩
def zawo : St → Option LR := L1 106 8 0 za4l (.exit 1) zasu (fun s => zfu s.1 s.2.1 s.2.2.1 s.2.2.2.1 s.2.2.2.2.1 s.2.2.2.2.2)
theorem za4m : zq (zy98).env 0 (sub zc98 [0, 1, 0, 1, 1, 1, 1]) zawo :=
  ziy (A := za4k) zh98 Facts.mix ⟨za4j, trivial⟩ (k := zci (sub zc98 [0, 1, 0, 1, 1, 1, 1])) (by kernel_rfl) rfl (by rintro ⟨x0, x1, x2, x3, x4, x5⟩; kernel_rfl)
def zd1 (x0 : Int) (x1 : zb) (x2 : zb) : Tr ((Int × zb × zb) ⊕ (zb × zb)) :=
  (.guard (((decide (((x1.Ripes.length : Nat) : Int) > 0)) = true → ((0 : Int) ≤ 0 ∧ 0 < ((Sl.len (.ripes x1.Ripes) : Nat) : Int)) ∧ True))
  (.ite ((decide (((x1.Ripes.length : Nat) : Int) > 0)) && (decide (((x1.Ripes.getD 0 default).Due) ≤ x0)))
    (.guard ((0 : Int) ≤ 0 ∧ 0 < ((Sl.len (.ripes x1.Ripes) : Nat) : Int))
    (.bind (zbo (⟨2, (x1.Ripes.getD 0 default).Id, 0, 0, [], []⟩ : Packet) x0 x1) fun v6 =>
    (.ite (v6.1 != 0)
      (.leaf (.inr (v6.2, x2)))
      (.guard ((0 : Int) ≤ 1 ∧ 1 ≤ (((Sl.len (.ripes v6.2.Ripes) : Nat) : Int) : Int) ∧ ((Sl.len (.ripes v6.2.Ripes) : Nat) : Int) ≤ ((Sl.len (.ripes v6.2.Ripes) : Nat) : Int))
      (.leaf (.inl (x0, { (v6.2 : zb) with Ripes := ((v6.2.Ripes.drop 1).take ((((Sl.len (.ripes v6.2.Ripes) : Nat) : Int)).toNat - 1)) }, x2)))))))
    (.leaf (.inr (x1, x2)))))
def zb6 (x0 : Int) (x1 : zb) (x2 : zb) : Option (zb × zb) := zeh (fun s : Int × zb × zb => (zd1 s.1 s.2.1 s.2.2).run) (x0, x1, x2)
def za4n : Ann := ⟨[], [], [], zv98, [(23, [800002])]⟩
def za4o : EndD (Int × zb × zb) := ⟨(LQ.seq (Par.q intP) (LQ.skip (LQ.const (.ptr 0 0)) (LQ.skip (LQ.const (.ptr 1 0)) (LQ.seq (LP.q z8) (LP.q z8))))), ⟨[1, 2, 4], [.pubC 2 6, .pubC 2 7]⟩, [.cells 71 22, .cells 71 22]⟩
def zasv : EndD (zb × zb) := ⟨(LQ.skip (LQ.const (.ptr 0 0)) (LQ.skip (LQ.const (.ptr 1 0)) (LQ.seq (LP.q z8) (LP.q z8)))), ⟨[2, 4], [.pubC 2 6, .pubC 2 7]⟩, [.cells 71 22, .cells 71 22]⟩
def zawp : St → Option LR := L1 106 8 0 za4o (.exit 5) zasv (fun s => zd1 s.1 s.2.1 s.2.2)
theorem za4p : zq (zy98).env 0 (sub zc98 [0, 0, 1, 1, 1, 1, 1, 1]) zawp :=
  ziy (A := za4n) zh98 Facts.mix trivial (k := zci (sub zc98 [0, 0, 1, 1, 1, 1, 1, 1])) (by kernel_rfl) rfl (by rintro ⟨x0, x1, x2⟩; kernel_rfl)
def za98 : Ann := ⟨[([0, 1, 0, 1, 1, 1, 1], zawo), ([0, 0, 1, 1, 1, 1, 1, 1], zawp)], [], [], zv98, [(23, [800002])]⟩
def zmy (a0 : zb) (a1 : Int) : Tr (zb × Int) :=
  (.bind (zeq a0) fun v1 =>
  (.ite (!v1)
    (.leaf (a0, 2))
    (.ite (!a0.On)
      (.leaf (a0, 4))
      (.ite ((decide (a1 < a0.Time)) || (decide (a1 > 1099511627776)))
        (.leaf (a0, 2))
        (.bind (zfn a0.Ripes) fun v2 =>
        (.bind (zk3 a1 a0.Pending ((a0.Pending.length : Nat) : Int) 0 ({ (a0 : zb) with Height := IntKind.i64.wrap (a0.Height + 1), Time := a1, Ripes := v2 }) (default : zb)) fun v5 =>
        (.bind (zb6 v5.1 ({ (v5.2.1 : zb) with Pending := [] }) v5.2.2) fun v7 =>
        (.leaf (v7.1, 0)))))))))
def zy (a0 : zb) (a1 : Int) : Option (zb × Int) := (zmy a0 a1).run
def zr98 : LQ (zb × Int) := (LQ.seq (Par.q (Par.ofLP z8)) (Par.q intP))
def zwq : LQ (zb × Int) := (LQ.seq (Par.q (Par.ofLP z8)) (Par.q intP))
def zza : SpecT := zv 0 zr98 2 [] (fun s => zmy s.1 s.2) default zwq 2 []
theorem z5x : zi Tryz.prog 84 (zza).spec :=
  zf (A := za98) zh98 Facts.mix Tryz.func84 (c := zc98) (by kernel_rfl) (Lc := 0) ⟨za4m, za4p, trivial⟩ zr98 2 8 [] (fun s => zmy s.1 s.2) default zwq 2 [] [.pubB 4] (by decide) (by kernel_rfl) (by rfl) (by decide) (by decide) (by rfl)
    (by rintro ⟨a0, a1⟩; kernel_rfl)
noncomputable def zc99 : Code := Tryz.f87.body.getD .skip
def zv99 : List (List Nat) := [[1, 2, 3, 6], [1, 2, 3, 6, 9], [6, 7], [1, 2, 3, 6, 22], [6, 7], [1, 2, 3, 6, 42], [6, 7], [1, 3, 6, 8], [1, 3, 6, 8, 59], [6, 7], [3, 6], [6, 7]]
noncomputable def zy99 : EnvT := ⟨Tryz.prog, zr [(24, zhn), (112, zn7), (104, zmx)]⟩
theorem zh99 : (zy99).Ok := ze ⟨zjl, zs3, zp9, trivial⟩
def za99 : Ann := ⟨[], [], [], zv99, []⟩
def zk4 (a0 : zb) (a1 : Int) (a2 : Int) : Tr (zb × Int) :=
  (.bind (zeq a0) fun v1 =>
  (.ite (((!v1) || (decide (a2 < 0))) || (decide (a2 > 1099511627776)))
    (.leaf (a0, 2))
    (.guard (((((!a0.On) || (decide (a1 < 0))) || (decide (a1 ≥ 6))) = false → ((zaa a0.Set a1).isSome = true) ∧ True))
    (.ite ((((!a0.On) || (decide (a1 < 0))) || (decide (a1 ≥ 6))) || (((zaa a0.Set a1).getD default) == 0))
      (.leaf (a0, 4))
      (.guard ((0 : Int) ≤ a1 ∧ (a1 : Int) < 6)
      (.ite (a0.Flags.get a1)
        (.leaf (a0, 5))
        (.guard ((zaa a0.Set a1).isSome = true)
        (.guard ((zbo (⟨3, a0.Id, a1, ((zaa a0.Set a1).getD default), [], []⟩ : Packet) a2 a0).isSome = true)
        (.ite ((((zbo (⟨3, a0.Id, a1, ((zaa a0.Set a1).getD default), [], []⟩ : Packet) a2 a0).getD default).1) != 0)
          (.leaf ((((zbo (⟨3, a0.Id, a1, ((zaa a0.Set a1).getD default), [], []⟩ : Packet) a2 a0).getD default).2), ((zbo (⟨3, a0.Id, a1, ((zaa a0.Set a1).getD default), [], []⟩ : Packet) a2 a0).getD default).1))
          (.guard ((0 : Int) ≤ a1 ∧ (a1 : Int) < 6)
          (.leaf ({ ((((zbo (⟨3, a0.Id, a1, ((zaa a0.Set a1).getD default), [], []⟩ : Packet) a2 a0).getD default).2) : zb) with Flags := (((((zbo (⟨3, a0.Id, a1, ((zaa a0.Set a1).getD default), [], []⟩ : Packet) a2 a0).getD default).2).Flags).set a1 true) }, 0))))))))))))
def zer (a0 : zb) (a1 : Int) (a2 : Int) : Option (zb × Int) := (zk4 a0 a1 a2).run
def zr99 : LQ (zb × Int × Int) := (LQ.seq (Par.q (Par.ofLP z8)) (LQ.seq (Par.q intP) (Par.q intP)))
def zu1 : LQ (zb × Int) := (LQ.seq (Par.q (Par.ofLP z8)) (Par.q intP))
def zwr : SpecT := zv 0 zr99 3 [] (fun s => zk4 s.1 s.2.1 s.2.2) default zu1 2 []
theorem z3t : zi Tryz.prog 87 (zwr).spec :=
  zf (A := za99) zh99 Facts.mix Tryz.func87 (c := zc99) (by kernel_rfl) (Lc := 0) trivial zr99 3 4 [] (fun s => zk4 s.1 s.2.1 s.2.2) default zu1 2 [] [.pubB 6] (by decide) (by kernel_rfl) (by rfl) (by decide) (by decide) (by rfl)
    (by rintro ⟨a0, a1, a2⟩; kernel_rfl)
noncomputable def za4q : Code := Tryz.f88.body.getD .skip
def za4r : List (List Nat) := [[1, 2, 3, 4, 8], [1, 2, 3, 4, 8, 11], [8, 9], [1, 2, 3, 4, 8, 24], [8, 9], [1, 2, 3, 4, 8, 37], [8, 9], [4, 8, 10], [4, 8, 10, 58], [8, 9], [8, 9]]
noncomputable def za4s : EnvT := ⟨Tryz.prog, zr [(24, zhn), (112, zn7), (104, zmx)]⟩
theorem za4t : (za4s).Ok := ze ⟨zjl, zs3, zp9, trivial⟩
def za4u : Ann := ⟨[], [], [], za4r, []⟩
def zif (a0 : zb) (a1 : Int) (a2 : Int) (a3 : Int) : Tr (zb × Int) :=
  (.bind (zeq a0) fun v1 =>
  (.ite (((!v1) || (decide (a3 < 0))) || (decide (a3 > 1099511627776)))
    (.leaf (a0, 2))
    (.ite (((!a0.On) || (decide (a1 < 0))) || (decide (a1 ≥ 6)))
      (.leaf (a0, 4))
      (.ite ((decide (a2 < 1)) || (decide (a2 > a0.Id)))
        (.leaf (a0, 2))
        (.bind (zaa a0.Set a1) fun v2 =>
        (.bind (zbo (⟨4, a2, a1, if v2 > 1 then v2 else 1, [], []⟩ : Packet) a3 a0) fun v3 =>
        (.ite (v3.1 != 0)
          (.leaf (v3.2, v3.1))
          (.leaf (v3.2, 0)))))))))
def zdl (a0 : zb) (a1 : Int) (a2 : Int) (a3 : Int) : Option (zb × Int) := (zif a0 a1 a2 a3).run
def zawq : LQ (zb × Int × Int × Int) := (LQ.seq (Par.q (Par.ofLP z8)) (LQ.seq (Par.q intP) (LQ.seq (Par.q intP) (Par.q intP))))
def zrl : LQ (zb × Int) := (LQ.seq (Par.q (Par.ofLP z8)) (Par.q intP))
def zs4 : SpecT := zv 0 zawq 4 [] (fun s => zif s.1 s.2.1 s.2.2.1 s.2.2.2) default zrl 2 []
theorem z1k : zi Tryz.prog 88 (zs4).spec :=
  zf (A := za4u) za4t Facts.mix Tryz.func88 (c := za4q) (by kernel_rfl) (Lc := 0) trivial zawq 4 4 [] (fun s => zif s.1 s.2.1 s.2.2.1 s.2.2.2) default zrl 2 [] [.pubB 8] (by decide) (by kernel_rfl) (by rfl) (by decide) (by decide) (by rfl)
    (by rintro ⟨a0, a1, a2, a3⟩; kernel_rfl)
noncomputable def za4v : Code := Tryz.f111.body.getD .skip
def za4w : List (List Nat) := [[1, 2], [1, 2, 5], [2], [1, 2], [2]]
noncomputable def za4x : EnvT := ⟨Tryz.prog, zr []⟩
theorem za4y : (za4x).Ok := ze trivial
def za4z : Ann := ⟨[], [], [], za4w, []⟩
def zig (a0 : zb) : Tr (zb) :=
  (.ite (!a0.On)
    (.leaf a0)
    (.leaf ({ (a0 : zb) with On := false, Gone := true, Out := { (a0.Out : zeg) with Closed := true } })))
def zg9 (a0 : zb) : Option (zb) := (zig a0).run
def zawr : LQ (zb) := (Par.q (Par.ofLP z8))
def zrm : LQ (zb) := (Par.q (Par.ofLP z8))
def zs5 : SpecT := zv 0 zawr 1 [] (fun s => zig s) default zrm 1 []
theorem z1l : zi Tryz.prog 111 (zs5).spec :=
  zf (A := za4z) za4y Facts.mix Tryz.func111 (c := za4v) (by kernel_rfl) (Lc := 0) trivial zawr 1 4 [] (fun s => zig s) default zrm 1 [] [.pubB 2] (by decide) (by kernel_rfl) (by rfl) (by decide) (by decide) (by rfl)
    (by rintro a0; kernel_rfl)
end
end Go.Proofs.YtmakmlnfbdablaaGreat.Ab
