/-
  The functions, each by its tree.
-/
import Derived.Test.YtmakmlnfbdablaaGreatXAbFun
import Derived.Test.YtmakmlnfbdablaaGreatXAbStructs
import Derived.Test.YtmakmlnfbdablaaGreatXFBank
import Derived.Test.YtmakmlnfbdablaaGreatXFCodec
import Derived.Test.YtmakmlnfbdablaaGreatXFCons
import Derived.Test.YtmakmlnfbdablaaGreatXFLine
import Derived.Test.YtmakmlnfbdablaaGreatXFProv
import Derived.Test.YtmakmlnfbdablaaGreatXFStakeA
import Derived.Test.YtmakmlnfbdablaaGreatXFStakeB
import Derived.Test.YtmakmlnfbdablaaGreatXFWld
import Derived.Test.YtmakmlnfbdablaaGreatXFacts
namespace Go.Proofs.YtmakmlnfbdablaaGreat.Ab
open Go Go.RowKit
set_option maxRecDepth 100000
set_option linter.unusedVariables false
set_option linter.unusedSimpArgs false
noncomputable section
noncomputable def zbcg : Code := Tryz.f15.body.getD .skip
def zbch : List (List Nat) := [[], [1], [1, 8], [0], [1, 2], [1, 2, 3], [1, 2, 3, 4], [1, 2, 3, 4, 5], [0]]
noncomputable def zbci : EnvT := ⟨Tryz.prog, zw [(43, zrl), (29, zcl), (40, zku), (23, zcu)]⟩
theorem zbcj : (zbci).Ok := ze ⟨zta, zcy, zpm, zd3, trivial⟩
def zbck : Ann := ⟨[], [], [[1, 0, 1, 1]], zbch, []⟩
def zvr  : Tr (Bool) :=
  (.bind (zk8) fun v1 =>
  (.bind (zd (⟨1, 0, 0, 0, 700, false, false⟩ : Deed) v1) fun v2 =>
  (.bind (zd (⟨5, 0, 0, 0, 5, false, false⟩ : Deed) v2.2) fun v3 =>
  (.bind (zd (⟨6, 0, 0, 0, 0, false, false⟩ : Deed) v3.2) fun v4 =>
  (.bind (zd (⟨4, 0, 0, 0, 0, false, false⟩ : Deed) v4.2) fun v5 =>
  (.ite ((((v2.1.Code == 0) && (v3.1.N == 5)) && (v4.1.Code == 0)) && (v5.1.N == 1))
    (.bind (zdy v5.2) fun v6 =>
    (.ite ((true : Bool) && (v6.1 == 5))
      (.bind (zg 0 v6.2) fun v7 =>
      (.leaf ((true : Bool) && (((v7.1.Set.length : Nat) : Int) == 1))))
      (.ite ((false : Bool))
        .fail
        (.ite ((false : Bool))
          .fail
          (.ite ((false : Bool))
            .fail
            (.ite ((false : Bool))
              .fail
              (.leaf (false : Bool))))))))
    (.ite ((false : Bool))
      .fail
      (.ite ((false : Bool))
        .fail
        (.ite ((false : Bool))
          (.bind (zg 0 v5.2) fun v6 =>
          (.leaf ((true : Bool) && (((v6.1.Set.length : Nat) : Int) == 1))))
          (.ite ((false : Bool))
            .fail
            (.ite ((false : Bool))
              .fail
              (.ite ((false : Bool))
                .fail
                (.ite ((false : Bool))
                  .fail
                  (.leaf (false : Bool)))))))))))))))
def zk9  : Option (Bool) := (zvr ).run
def zazz : LQ (Unit) := LQ.nil
def z45 : LQ (Bool) := (Par.q boolP)
def zvs : SpecT := zx 0 zazz 0 [] (fun s => zvr ) default z45 1 []
theorem zye : zj Tryz.prog 15 (zvs).spec :=
  zf (A := zbck) zbcj Facts.mix Tryz.func15 (c := zbcg) (by kernel_rfl) (Lc := 0) trivial zazz 0 7 [] (fun s => zvr ) default z45 1 [] [] (by decide) (by kernel_rfl) (by rfl) (by decide) (by decide) (by rfl)
    (by rintro _; kernel_rfl)
noncomputable def zau7 : Code := Tryz.f38.body.getD .skip
def zaz0 : List (List Nat) := [[0, 1], [0, 1, 10], [4], [0, 1, 5], [0, 1, 5, 14], [0, 1, 5], [0, 1, 5, 25], [4], [4]]
noncomputable def zaz1 : EnvT := ⟨Tryz.prog, zw []⟩
theorem zaz2 : (zaz1).Ok := ze trivial
def zef (x0 : (List Power)) (x1 : (List Power)) (x2 : Int) : Tr (((List Power) × (List Power) × Int) ⊕ ((Bool) ⊕ (Unit))) :=
  (.ite (decide (x2 < ((x0.length : Nat) : Int)))
    (.guard ((0 : Int) ≤ x2 ∧ x2 < ((Sl.len (.powers x0) : Nat) : Int))
    (.guard ((0 : Int) ≤ x2 ∧ x2 < ((Sl.len (.powers x1) : Nat) : Int))
    (.ite (!(((x0.getD x2.toNat default).V == (x1.getD x2.toNat default).V) && (((x0.getD x2.toNat default).N == (x1.getD x2.toNat default).N) && true)))
      (.leaf (.inr (.inl false)))
      (.leaf (.inl (x0, x1, IntKind.i64.wrap (x2 + 1)))))))
    (.leaf (.inr (.inr ()))))
def zjd (x0 : (List Power)) (x1 : (List Power)) (x2 : Int) : Option ((Bool) ⊕ (Unit)) := zd5 (fun s : (List Power) × (List Power) × Int => (zef s.1 s.2.1 s.2.2).run) (x0, x1, x2)
def zaz3 : Ann := ⟨[], [], [], zaz0, []⟩
def zaz4 : EndD ((List Power) × (List Power) × Int) := ⟨(LQ.seq (Par.q zt) (LQ.seq (Par.q zt) (Par.q intP))), ⟨[0, 1, 5], [.pub 0, .nilsl 0 (.powers []), .pub 1, .nilsl 1 (.powers [])]⟩, []⟩
def zapa : EndD (Bool) := ⟨(Par.q boolP), ⟨[4], []⟩, []⟩
def zapb : EndD (Unit) := ⟨LQ.nil, ⟨[], []⟩, []⟩
def zar5 : St → Option LR := L2 26 2 0 zaz4 .ret zapa (.exit 0) zapb (fun s => zef s.1 s.2.1 s.2.2)
theorem zaz5 : zv (zaz1).env 0 (sub zau7 [0, 1, 0, 1, 1]) zar5 :=
  zlc (A := zaz3) zaz2 Facts.mix trivial (k := zb1 (sub zau7 [0, 1, 0, 1, 1])) (by kernel_rfl) rfl rfl (by rintro ⟨x0, x1, x2⟩; kernel_rfl)
def zbcl : Ann := ⟨[([0, 1, 0, 1, 1], zar5)], [], [], zaz0, []⟩
def zkf (a0 : (List Power)) (a1 : (List Power)) : Tr (Bool) :=
  (.ite (((a0.length : Nat) : Int) != ((a1.length : Nat) : Int))
    (.leaf false)
    (.two (zjd a0 a1 0) (fun v1 =>
      (.leaf v1)) (fun v2 =>
      (.leaf true))))
def zaz (a0 : (List Power)) (a1 : (List Power)) : Option (Bool) := (zkf a0 a1).run
def zaz6 : LQ ((List Power) × (List Power)) := (LQ.seq (Par.q zt) (Par.q zt))
def zum : LQ (Bool) := (Par.q boolP)
def zpc : SpecT := zx 0 zaz6 2 [] (fun s => zkf s.1 s.2) default zum 1 []
theorem zun : zj Tryz.prog 38 (zpc).spec :=
  zf (A := zbcl) zaz2 Facts.mix Tryz.func38 (c := zau7) (by kernel_rfl) (Lc := 0) ⟨zaz5, trivial⟩ zaz6 2 2 [] (fun s => zkf s.1 s.2) default zum 1 [] [] (by decide) (by kernel_rfl) (by rfl) (by decide) (by decide) (by rfl)
    (by rintro ⟨a0, a1⟩; kernel_rfl)
noncomputable def zamd : Code := Tryz.f70.body.getD .skip
def zau8 : List (List Nat) := [[2, 3], [2, 3, 36], [4], [2, 3, 39, 40], [2, 3, 39, 40, 41], [2, 3, 5, 39, 40], [2, 3, 39, 40, 53], [4], [2, 3, 39, 40], [2, 3, 57, 58], [2, 3, 57, 58, 59], [2, 3, 6, 57, 58], [2, 3, 57, 58, 71], [4], [2, 3, 57, 58], [4]]
noncomputable def zau9 : EnvT := ⟨Tryz.prog, zw []⟩
theorem zava : (zau9).Ok := ze trivial
def zf5 (x0 : Int) (x1 : Int) (x2 : zbk) (x3 : zbk) : Tr ((Int × Int × zbk × zbk) ⊕ ((Bool) ⊕ (zbk × zbk))) :=
  (.ite (decide (x1 < x0))
    (.guard ((0 : Int) ≤ x1 ∧ x1 < ((Sl.len (.strs x2.Said) : Nat) : Int))
    (.guard ((0 : Int) ≤ x1 ∧ x1 < ((Sl.len (.strs x3.Said) : Nat) : Int))
    (.ite (!((x2.Said.getD x1.toNat .empty).toList == (x3.Said.getD x1.toNat .empty).toList))
      (.leaf (.inr (.inl false)))
      (.leaf (.inl (x0, IntKind.i64.wrap (x1 + 1), x2, x3))))))
    (.leaf (.inr (.inr (x2, x3)))))
def zme (x0 : Int) (x1 : Int) (x2 : zbk) (x3 : zbk) : Option ((Bool) ⊕ (zbk × zbk)) := zd5 (fun s : Int × Int × zbk × zbk => (zf5 s.1 s.2.1 s.2.2.1 s.2.2.2).run) (x0, x1, x2, x3)
def zaz7 : Ann := ⟨[], [], [], zau8, []⟩
def zaz8 : EndD (Int × Int × zbk × zbk) := ⟨(LQ.skip (LQ.const (.ptr 0 0)) (LQ.skip (LQ.const (.ptr 1 0)) (LQ.seq (Par.q intP) (LQ.seq (Par.q intP) (LQ.seq (LP.q lineL) (LP.q lineL)))))), ⟨[2, 3, 39, 40], []⟩, [.cells 51 4, .cells 51 4]⟩
def zapc : EndD (Bool) := ⟨(Par.q boolP), ⟨[4], []⟩, []⟩
def zapd : EndD (zbk × zbk) := ⟨(LQ.skip (LQ.const (.ptr 0 0)) (LQ.skip (LQ.const (.ptr 1 0)) (LQ.seq (LP.q lineL) (LP.q lineL)))), ⟨[2, 3], []⟩, [.cells 51 4, .cells 51 4]⟩
def zar6 : St → Option LR := L2 73 4 0 zaz8 .ret zapc (.exit 0) zapd (fun s => zf5 s.1 s.2.1 s.2.2.1 s.2.2.2)
theorem zaz9 : zv (zau9).env 0 (sub zamd [0, 1, 0, 1, 1]) zar6 :=
  zlc (A := zaz7) zava Facts.mix trivial (k := zb1 (sub zamd [0, 1, 0, 1, 1])) (by kernel_rfl) rfl rfl (by rintro ⟨x0, x1, x2, x3⟩; kernel_rfl)
def zf6 (x0 : Int) (x1 : Int) (x2 : zbk) (x3 : zbk) : Tr ((Int × Int × zbk × zbk) ⊕ ((Bool) ⊕ (Unit))) :=
  (.ite (decide (x1 < x0))
    (.guard ((0 : Int) ≤ x1 ∧ x1 < ((Sl.len (.ints x2.Due) : Nat) : Int))
    (.guard ((0 : Int) ≤ x1 ∧ x1 < ((Sl.len (.ints x3.Due) : Nat) : Int))
    (.ite ((x2.Due.getD x1.toNat 0) != (x3.Due.getD x1.toNat 0))
      (.leaf (.inr (.inl false)))
      (.leaf (.inl (x0, IntKind.i64.wrap (x1 + 1), x2, x3))))))
    (.leaf (.inr (.inr ()))))
def zmf (x0 : Int) (x1 : Int) (x2 : zbk) (x3 : zbk) : Option ((Bool) ⊕ (Unit)) := zd5 (fun s : Int × Int × zbk × zbk => (zf6 s.1 s.2.1 s.2.2.1 s.2.2.2).run) (x0, x1, x2, x3)
def za0a : Ann := ⟨[], [], [], zau8, []⟩
def za0b : EndD (Int × Int × zbk × zbk) := ⟨(LQ.skip (LQ.const (.ptr 0 0)) (LQ.skip (LQ.const (.ptr 1 0)) (LQ.seq (Par.q intP) (LQ.seq (Par.q intP) (LQ.seq (LP.q lineL) (LP.q lineL)))))), ⟨[2, 3, 57, 58], []⟩, [.cells 51 4, .cells 51 4]⟩
def zape : EndD (Bool) := ⟨(Par.q boolP), ⟨[4], []⟩, []⟩
def zapf : EndD (Unit) := ⟨LQ.nil, ⟨[], []⟩, []⟩
def zar7 : St → Option LR := L2 73 4 0 za0b .ret zape (.exit 2) zapf (fun s => zf6 s.1 s.2.1 s.2.2.1 s.2.2.2)
theorem za0c : zv (zau9).env 0 (sub zamd [0, 1, 0, 1, 1, 1]) zar7 :=
  zlc (A := za0a) zava Facts.mix trivial (k := zb1 (sub zamd [0, 1, 0, 1, 1, 1])) (by kernel_rfl) rfl rfl (by rintro ⟨x0, x1, x2, x3⟩; kernel_rfl)
def zbcm : Ann := ⟨[([0, 1, 0, 1, 1], zar6), ([0, 1, 0, 1, 1, 1], zar7)], [], [], zau8, []⟩
def zn8 (a0 : zbk) (a1 : zbk) : Tr (Bool) :=
  (.ite ((((((a0.Said.length : Nat) : Int) != ((a1.Said.length : Nat) : Int)) || (((a0.Due.length : Nat) : Int) != ((a1.Due.length : Nat) : Int))) || (a0.Got != a1.Got)) || (!(a0.Closed == a1.Closed)))
    (.leaf false)
    (.two (zme ((a0.Said.length : Nat) : Int) 0 a0 a1) (fun v1 =>
      (.leaf v1)) (fun v2 =>
      (.two (zmf ((v2.1.Due.length : Nat) : Int) 0 v2.1 v2.2) (fun v3 =>
        (.leaf v3)) (fun v4 =>
        (.leaf true))))))
def zf7 (a0 : zbk) (a1 : zbk) : Option (Bool) := (zn8 a0 a1).run
def za0d : LQ (zbk × zbk) := (LQ.seq (Par.q (Par.ofLP lineL)) (Par.q (Par.ofLP lineL)))
def zyf : LQ (Bool) := (Par.q boolP)
def zts : SpecT := zx 0 za0d 2 [] (fun s => zn8 s.1 s.2) default zyf 1 []
theorem zyg : zj Tryz.prog 70 (zts).spec :=
  zf (A := zbcm) zava Facts.mix Tryz.func70 (c := zamd) (by kernel_rfl) (Lc := 0) ⟨zaz9, za0c, trivial⟩ za0d 2 4 [] (fun s => zn8 s.1 s.2) default zyf 1 [] [] (by decide) (by kernel_rfl) (by rfl) (by decide) (by decide) (by rfl)
    (by rintro ⟨a0, a1⟩; kernel_rfl)
noncomputable def zame : Code := Tryz.f41.body.getD .skip
def zavb : List (List Nat) := [[2, 3], [2, 3, 82], [4], [2, 3, 86, 87], [2, 3, 86, 87, 88], [2, 3, 5, 86, 87], [2, 3, 86, 87, 102], [4], [2, 3, 86, 87], [2, 3, 104], [2, 3, 104, 105], [2, 3, 6, 104], [2, 3, 7, 8, 104], [2, 3, 104, 165], [4], [2, 3, 104], [4]]
noncomputable def zavc : EnvT := ⟨Tryz.prog, zw [(38, zpc), (70, zts)]⟩
theorem zavd : (zavc).Ok := ze ⟨zun, zyg, trivial⟩
def zdm (x0 : Int) (x1 : Int) (x2 : za) (x3 : za) : Tr ((Int × Int × za × za) ⊕ ((Bool) ⊕ (za × za))) :=
  (.ite (decide (x1 < x0))
    (.guard ((0 : Int) ≤ x1 ∧ x1 < ((Sl.len (.waits x2.Stake.Waits) : Nat) : Int))
    (.guard ((0 : Int) ≤ x1 ∧ x1 < ((Sl.len (.waits x3.Stake.Waits) : Nat) : Int))
    (.ite (!(zalb (x2.Stake.Waits.getD x1.toNat default) (x3.Stake.Waits.getD x1.toNat default)))
      (.leaf (.inr (.inl false)))
      (.leaf (.inl (x0, IntKind.i64.wrap (x1 + 1), x2, x3))))))
    (.leaf (.inr (.inr (x2, x3)))))
def zhe (x0 : Int) (x1 : Int) (x2 : za) (x3 : za) : Option ((Bool) ⊕ (za × za)) := zd5 (fun s : Int × Int × za × za => (zdm s.1 s.2.1 s.2.2.1 s.2.2.2).run) (x0, x1, x2, x3)
def za0e : Ann := ⟨[], [], [], zavb, []⟩
def za0f : EndD (Int × Int × za × za) := ⟨(LQ.skip (LQ.const (.ptr 0 0)) (LQ.skip (LQ.const (.ptr 1 0)) (LQ.seq (Par.q intP) (LQ.seq (Par.q intP) (LQ.seq (LP.q providerL) (LP.q providerL)))))), ⟨[2, 3, 86, 87], []⟩, [.cells 61 97, .cells 61 97]⟩
def zapg : EndD (Bool) := ⟨(Par.q boolP), ⟨[4], []⟩, []⟩
def zaph : EndD (za × za) := ⟨(LQ.skip (LQ.const (.ptr 0 0)) (LQ.skip (LQ.const (.ptr 1 0)) (LQ.seq (LP.q providerL) (LP.q providerL)))), ⟨[2, 3], []⟩, [.cells 61 97, .cells 61 97]⟩
def zar8 : St → Option LR := L2 167 6 0 za0f .ret zapg (.exit 0) zaph (fun s => zdm s.1 s.2.1 s.2.2.1 s.2.2.2)
theorem za0g : zv (zavc).env 0 (sub zame [0, 1, 0, 1, 1]) zar8 :=
  zlc (A := za0e) zavd Facts.mix trivial (k := zb1 (sub zame [0, 1, 0, 1, 1])) (by kernel_rfl) rfl rfl (by rintro ⟨x0, x1, x2, x3⟩; kernel_rfl)
def zb2 (x0 : Int) (x1 : za) (x2 : za) : Tr ((Int × za × za) ⊕ ((Bool) ⊕ (Unit))) :=
  (.ite (decide (x0 < 2))
    (.guard ((0 : Int) ≤ x0 ∧ (x0 : Int) < 2)
    (.guard ((0 : Int) ≤ x0 ∧ (x0 : Int) < 2)
    (.guard (((((((!((x1.Links.On.get x0) == (x2.Links.On.get x0))) || (!((x1.Links.Gone.get x0) == (x2.Links.Gone.get x0)))) || (!((x1.Links.Fresh.get x0) == (x2.Links.Fresh.get x0)))) || (!(z4e (zk x1.Links x0).Seen (zk x2.Links x0).Seen))) || ((((x1.Links.Done.get x0).length : Nat) : Int) != (((x2.Links.Done.get x0).length : Nat) : Int))) = false → ((zaz (x1.Links.Told.get x0) (x2.Links.Told.get x0)).isSome = true) ∧ True))
    (.guard ((((((((!((x1.Links.On.get x0) == (x2.Links.On.get x0))) || (!((x1.Links.Gone.get x0) == (x2.Links.Gone.get x0)))) || (!((x1.Links.Fresh.get x0) == (x2.Links.Fresh.get x0)))) || (!(z4e (zk x1.Links x0).Seen (zk x2.Links x0).Seen))) || ((((x1.Links.Done.get x0).length : Nat) : Int) != (((x2.Links.Done.get x0).length : Nat) : Int))) || (!((zaz (x1.Links.Told.get x0) (x2.Links.Told.get x0)).getD default))) = false → ((zf7 (zk x1.Links x0).Out (zk x2.Links x0).Out).isSome = true) ∧ True))
    (.ite (((((((!((x1.Links.On.get x0) == (x2.Links.On.get x0))) || (!((x1.Links.Gone.get x0) == (x2.Links.Gone.get x0)))) || (!((x1.Links.Fresh.get x0) == (x2.Links.Fresh.get x0)))) || (!(z4e (zk x1.Links x0).Seen (zk x2.Links x0).Seen))) || ((((x1.Links.Done.get x0).length : Nat) : Int) != (((x2.Links.Done.get x0).length : Nat) : Int))) || (!((zaz (x1.Links.Told.get x0) (x2.Links.Told.get x0)).getD default))) || (!((zf7 (zk x1.Links x0).Out (zk x2.Links x0).Out).getD default)))
      (.leaf (.inr (.inl false)))
      (.leaf (.inl (IntKind.i64.wrap (x0 + 1), x1, x2))))))))
    (.leaf (.inr (.inr ()))))
def zhf (x0 : Int) (x1 : za) (x2 : za) : Option ((Bool) ⊕ (Unit)) := zd5 (fun s : Int × za × za => (zb2 s.1 s.2.1 s.2.2).run) (x0, x1, x2)
def za0h : Ann := ⟨[], [], [], zavb, []⟩
def za0i : EndD (Int × za × za) := ⟨(LQ.skip (LQ.const (.ptr 0 0)) (LQ.skip (LQ.const (.ptr 1 0)) (LQ.seq (Par.q intP) (LQ.seq (LP.q providerL) (LP.q providerL))))), ⟨[2, 3, 104], []⟩, [.cells 61 97, .cells 61 97]⟩
def zapi : EndD (Bool) := ⟨(Par.q boolP), ⟨[4], []⟩, []⟩
def zapj : EndD (Unit) := ⟨LQ.nil, ⟨[], []⟩, []⟩
def zar9 : St → Option LR := L2 167 6 0 za0i .ret zapi (.exit 2) zapj (fun s => zb2 s.1 s.2.1 s.2.2)
theorem za0j : zv (zavc).env 0 (sub zame [0, 1, 0, 1, 1, 1]) zar9 :=
  zlc (A := za0h) zavd Facts.mix trivial (k := zb1 (sub zame [0, 1, 0, 1, 1, 1])) (by kernel_rfl) rfl rfl (by rintro ⟨x0, x1, x2⟩; kernel_rfl)
def zbcn : Ann := ⟨[([0, 1, 0, 1, 1], zar8), ([0, 1, 0, 1, 1, 1], zar9)], [], [], zavb, []⟩
def zho (a0 : za) (a1 : za) : Tr (Bool) :=
  (.guard ((((((((((a0.Height != a1.Height) || (a0.Time != a1.Time)) || (!(zty a0.Stake.Bank a1.Stake.Bank))) || (!(zahh a0.Stake.Validators a1.Stake.Validators))) || (!(z5n a0.Stake.Shares a1.Stake.Shares))) || (!((a0.Meter.Left == a1.Meter.Left) && ((a0.Meter.Next == a1.Meter.Next) && true)))) || (((a0.Stake.Waits.length : Nat) : Int) != ((a1.Stake.Waits.length : Nat) : Int))) || (((a0.Queue.length : Nat) : Int) != ((a1.Queue.length : Nat) : Int))) = false → ((zaz a0.Set a1.Set).isSome = true) ∧ True))
  (.ite (((((((((a0.Height != a1.Height) || (a0.Time != a1.Time)) || (!(zty a0.Stake.Bank a1.Stake.Bank))) || (!(zahh a0.Stake.Validators a1.Stake.Validators))) || (!(z5n a0.Stake.Shares a1.Stake.Shares))) || (!((a0.Meter.Left == a1.Meter.Left) && ((a0.Meter.Next == a1.Meter.Next) && true)))) || (((a0.Stake.Waits.length : Nat) : Int) != ((a1.Stake.Waits.length : Nat) : Int))) || (((a0.Queue.length : Nat) : Int) != ((a1.Queue.length : Nat) : Int))) || (!((zaz a0.Set a1.Set).getD default)))
    (.leaf false)
    (.two (zhe ((a0.Stake.Waits.length : Nat) : Int) 0 a0 a1) (fun v1 =>
      (.leaf v1)) (fun v2 =>
      (.two (zhf 0 v2.1 v2.2) (fun v3 =>
        (.leaf v3)) (fun v4 =>
        (.leaf true)))))))
def z7 (a0 : za) (a1 : za) : Option (Bool) := (zho a0 a1).run
def za0k : LQ (za × za) := (LQ.seq (Par.q (Par.ofLP providerL)) (Par.q (Par.ofLP providerL)))
def zrp : LQ (Bool) := (Par.q boolP)
def zmg : SpecT := zx 0 za0k 2 [] (fun s => zho s.1 s.2) default zrp 1 []
theorem zrq : zj Tryz.prog 41 (zmg).spec :=
  zf (A := zbcn) zavd Facts.mix Tryz.func41 (c := zame) (by kernel_rfl) (Lc := 0) ⟨za0g, za0j, trivial⟩ za0k 2 6 [] (fun s => zho s.1 s.2) default zrp 1 [] [] (by decide) (by kernel_rfl) (by rfl) (by decide) (by decide) (by rfl)
    (by rintro ⟨a0, a1⟩; kernel_rfl)
noncomputable def zbco : Code := Tryz.f42.body.getD .skip
def zbcp : List (List Nat) := [[2, 3], [4]]
noncomputable def zbcq : EnvT := ⟨Tryz.prog, zw [(38, zpc), (70, zts)]⟩
theorem zbcr : (zbcq).Ok := ze ⟨zun, zyg, trivial⟩
def zbcs : Ann := ⟨[], [], [], zbcp, []⟩
def zhp (a0 : zb) (a1 : zb) : Tr (Bool) :=
  (.guard (((((((((((a0.On == a1.On) && (a0.Gone == a1.Gone)) && (a0.Height == a1.Height)) && (a0.Time == a1.Time)) && (a0.Id == a1.Id)) && (z6a a0.Flags a1.Flags)) && (z4e a0.Seen a1.Seen)) && (((a0.Pending.length : Nat) : Int) == ((a1.Pending.length : Nat) : Int))) && (((a0.Ripes.length : Nat) : Int) == ((a1.Ripes.length : Nat) : Int))) = true → ((zaz a0.Set a1.Set).isSome = true) ∧ True))
  (.guard ((((((((((((a0.On == a1.On) && (a0.Gone == a1.Gone)) && (a0.Height == a1.Height)) && (a0.Time == a1.Time)) && (a0.Id == a1.Id)) && (z6a a0.Flags a1.Flags)) && (z4e a0.Seen a1.Seen)) && (((a0.Pending.length : Nat) : Int) == ((a1.Pending.length : Nat) : Int))) && (((a0.Ripes.length : Nat) : Int) == ((a1.Ripes.length : Nat) : Int))) && ((zaz a0.Set a1.Set).getD default)) = true → ((zf7 a0.Out a1.Out).isSome = true) ∧ True))
  (.leaf (((((((((((a0.On == a1.On) && (a0.Gone == a1.Gone)) && (a0.Height == a1.Height)) && (a0.Time == a1.Time)) && (a0.Id == a1.Id)) && (z6a a0.Flags a1.Flags)) && (z4e a0.Seen a1.Seen)) && (((a0.Pending.length : Nat) : Int) == ((a1.Pending.length : Nat) : Int))) && (((a0.Ripes.length : Nat) : Int) == ((a1.Ripes.length : Nat) : Int))) && ((zaz a0.Set a1.Set).getD default)) && ((zf7 a0.Out a1.Out).getD default)))))
def z8 (a0 : zb) (a1 : zb) : Option (Bool) := (zhp a0 a1).run
def za0l : LQ (zb × zb) := (LQ.seq (Par.q (Par.ofLP z9)) (Par.q (Par.ofLP z9)))
def zrr : LQ (Bool) := (Par.q boolP)
def zmh : SpecT := zx 0 za0l 2 [] (fun s => zhp s.1 s.2) default zrr 1 []
theorem zrs : zj Tryz.prog 42 (zmh).spec :=
  zf (A := zbcs) zbcr Facts.mix Tryz.func42 (c := zbco) (by kernel_rfl) (Lc := 0) trivial za0l 2 4 [] (fun s => zhp s.1 s.2) default zrr 1 [] [] (by decide) (by kernel_rfl) (by rfl) (by decide) (by decide) (by rfl)
    (by rintro ⟨a0, a1⟩; kernel_rfl)
noncomputable def zbct : Code := Tryz.f27.body.getD .skip
def zbcu : List (List Nat) := [[], [6]]
noncomputable def zbcv : EnvT := ⟨Tryz.prog, zw []⟩
theorem zbcw : (zbcv).Ok := ze trivial
def zbcx : Ann := ⟨[], [], [], zbcu, []⟩
def zvt (a0 : Deed) (a1 : Reply) (a2 : Wld) : Tr (Bool × Wld) :=
  (.leaf (true, a2))
def zid (a0 : Deed) (a1 : Reply) (a2 : Wld) : Option (Bool × Wld) := (zvt a0 a1 a2).run
def za0m : LQ (Deed × Reply × Wld) := (LQ.skip (LQ.const (.ptr 0 0)) (LQ.seq (Par.q (Par.ofLP deedL)) (LQ.seq (Par.q (Par.ofLP zqu)) (LP.q wldL))))
def z46 : LQ (Bool × Wld) := (LQ.seq (Par.q boolP) (LP.q wldL))
def z7h : SpecT := zx 1 za0m 3 [.cells 109 159] (fun s => zvt s.1 s.2.1 s.2.2) default z46 1 [.cells 109 159]
theorem zad0 : zj Tryz.prog 27 (z7h).spec :=
  zf (A := zbcx) zbcw Facts.mix Tryz.func27 (c := zbct) (by kernel_rfl) (Lc := 1) trivial za0m 3 5 [.cells 109 159] (fun s => zvt s.1 s.2.1 s.2.2) default z46 1 [.cells 109 159] [.pubN 0] (by decide) (by kernel_rfl) (by rfl) (by decide) (by decide) (by rfl)
    (by rintro ⟨a0, a1, a2⟩; kernel_rfl)
noncomputable def zave : Code := Tryz.f17.body.getD .skip
def za0n : List (List Nat) := [[0, 1], [0, 1, 10], [4, 5], [0, 1, 6], [0, 1, 6, 7], [0, 1, 6, 7, 19], [0, 1, 6, 7], [0, 1, 6, 7, 8], [0, 1, 6, 7, 36], [4, 5], [4, 5]]
noncomputable def za0o : EnvT := ⟨Tryz.prog, zw [(15, zvs), (43, zrl), (29, zcl), (27, z7h)]⟩
theorem za0p : (za0o).Ok := ze ⟨zye, zta, zcy, zad0, trivial⟩
def zyh (x0 : (List Deed)) (x1 : Int) (x2 : Wld) : Tr (((List Deed) × Int × Wld) ⊕ ((Bool × Wld) ⊕ (Wld))) :=
  (.ite ((decide (x1 < ((x0.length : Nat) : Int))) && (decide (x1 < 120)))
    (.guard ((0 : Int) ≤ x1 ∧ x1 < ((Sl.len (.deeds x0) : Nat) : Int))
    (.bind (zd (x0.getD x1.toNat default) x2) fun v3 =>
    (.guard ((0 : Int) ≤ x1 ∧ x1 < ((Sl.len (.deeds x0) : Nat) : Int))
    (.guard ((zid (x0.getD x1.toNat default) v3.1 v3.2).isSome = true)
    (.ite (!((zid (x0.getD x1.toNat default) v3.1 v3.2).getD default).1)
      (.leaf (.inr (.inl (false, ((zid (x0.getD x1.toNat default) v3.1 v3.2).getD default).2))))
      (.leaf (.inl (x0, IntKind.i64.wrap (x1 + 1), ((zid (x0.getD x1.toNat default) v3.1 v3.2).getD default).2))))))))
    (.leaf (.inr (.inr x2))))
def zw0 (x0 : (List Deed)) (x1 : Int) (x2 : Wld) : Option ((Bool × Wld) ⊕ (Wld)) := zd5 (fun s : (List Deed) × Int × Wld => (zyh s.1 s.2.1 s.2.2).run) (x0, x1, x2)
def za0q : Ann := ⟨[], [], [], za0n, []⟩
def za0r : EndD ((List Deed) × Int × Wld) := ⟨(LQ.seq (Par.q deedsP) (LQ.skip (LQ.const (.fn 27 [])) (LQ.skip (LQ.const (.ptr 0 0)) (LQ.seq (Par.q intP) (LP.q wldL))))), ⟨[0, 1, 6, 7], [.pub 0, .nilsl 0 (.deeds [])]⟩, [.cells 109 159]⟩
def zapk : EndD (Bool × Wld) := ⟨(LQ.skip (LQ.const (.ptr 0 0)) (LQ.seq (Par.q boolP) (LP.q wldL))), ⟨[4, 5], [.pubB 4]⟩, [.cells 109 159]⟩
def zapl : EndD (Wld) := ⟨(LQ.skip (LQ.const (.ptr 0 0)) (LP.q wldL)), ⟨[6], []⟩, [.cells 109 159]⟩
def zasa : St → Option LR := L2 39 4 0 za0r .ret zapk (.exit 0) zapl (fun s => zyh s.1 s.2.1 s.2.2)
theorem za0s : zv (za0o).env 0 (sub zave [0, 1, 0, 1, 1, 1]) zasa :=
  zlc (A := za0q) za0p Facts.mix trivial (k := zb1 (sub zave [0, 1, 0, 1, 1, 1])) (by kernel_rfl) rfl rfl (by rintro ⟨x0, x1, x2⟩; kernel_rfl)
def zbcy : Ann := ⟨[([0, 1, 0, 1, 1, 1], zasa)], [], [], za0n, []⟩
def ztc (a0 : (List Deed)) : Tr (Bool × Wld) :=
  (.bind (zk9) fun v1 =>
  (.ite (!v1)
    .fail
    (.bind (zk8) fun v2 =>
    (.two (zw0 a0 0 v2) (fun v4 =>
      (.leaf (v4.1, v4.2))) (fun v5 =>
      (.leaf (true, v5)))))))
def zmi (a0 : (List Deed)) : Option (Bool × Wld) := (ztc a0).run
def za0t : LQ ((List Deed)) := (LQ.skipR (Par.q deedsP) (LQ.const (.fn 27 [])))
def z25 : LQ (Bool × Wld) := (LQ.skip (LQ.const (.ptr 0 0)) (LQ.seq (Par.q boolP) (LP.q wldL)))
def ztd : SpecT := zx 0 za0t 2 [] (fun s => ztc s) default z25 2 [.cells 109 159]
theorem zvu : zj Tryz.prog 17 (ztd).spec :=
  zf (A := zbcy) za0p Facts.mix Tryz.func17 (c := zave) (by kernel_rfl) (Lc := 0) ⟨za0s, trivial⟩ za0t 2 4 [] (fun s => ztc s) default z25 2 [.cells 109 159] [.pubB 4] (by decide) (by kernel_rfl) (by rfl) (by decide) (by decide) (by rfl)
    (by rintro a0; kernel_rfl)
noncomputable def zagd : Code := Tryz.f26.body.getD .skip
def zapm : List (List Nat) := [[0, 3, 4, 6, 7], [0, 3, 4, 6, 7, 9], [0, 3, 4, 6, 7, 9, 10], [0, 3, 4, 6, 7, 9, 10, 18], [0, 3, 4, 6, 7, 9, 10], [0, 3, 4, 6, 7, 9, 10, 11], [0, 3, 4, 6, 7, 9, 10, 11, 12], [0, 3, 4, 6, 7, 9, 10, 11, 12, 44], [8], [0, 3, 4, 6, 7, 9, 10, 11, 12, 48, 49], [0, 3, 4, 6, 7, 9, 10, 11, 12, 48, 49, 50], [0, 3, 4, 6, 7, 9, 10, 11, 12, 13, 48, 49], [0, 3, 4, 6, 7, 9, 10, 11, 12, 48, 49, 70], [8], [0, 3, 4, 6, 7, 9, 10, 11, 12, 48, 49], [0, 3, 4, 6, 7, 9, 10, 11, 12, 75, 76], [0, 3, 4, 6, 7, 9, 10, 11, 12, 75, 76, 77], [0, 3, 4, 6, 7, 9, 10, 11, 12, 14, 75, 76], [0, 3, 4, 6, 7, 9, 10, 11, 12, 75, 76, 99], [8], [0, 3, 4, 6, 7, 9, 10, 11, 12, 75, 76], [0, 3, 4, 6, 7, 9, 10], [8]]
noncomputable def zapn : EnvT := ⟨Tryz.prog, zw [(19, zff), (23, zfg)]⟩
theorem zapo : (zapn).Ok := ze ⟨zi6, zi7, trivial⟩
def zeg (x0 : Int) (x1 : Int) (x2 : Int) (x3 : Wld) (x4 : (A2 (List ByteArray))) (x5 : (A2 (List ByteArray))) (x6 : Deed) (x7 : Reply) (x8 : za) (x9 : zb) (x10 : zbk) : Tr ((Int × Int × Int × Wld × (A2 (List ByteArray)) × (A2 (List ByteArray)) × Deed × Reply × za × zb × zbk) ⊕ ((Bool × Wld × (A2 (List ByteArray)) × (A2 (List ByteArray))) ⊕ (Int × Wld × (A2 (List ByteArray)) × (A2 (List ByteArray)) × Deed × Reply × za × zb × zbk))) :=
  (.ite (decide (x2 < x1))
    (.guard (((decide (x2 ≥ ((x10.Said.length : Nat) : Int))) = false → ((0 : Int) ≤ x2 ∧ x2 < ((Sl.len (.strs x10.Said) : Nat) : Int)) ∧ True))
    (.guard (((decide (x2 ≥ ((x10.Said.length : Nat) : Int))) = false → ((0 : Int) ≤ x0 ∧ (x0 : Int) < 2) ∧ True))
    (.guard (((decide (x2 ≥ ((x10.Said.length : Nat) : Int))) = false → ((0 : Int) ≤ x2 ∧ x2 < ((Sl.len (.strs (x4.get x0)) : Nat) : Int)) ∧ True))
    (.ite ((decide (x2 ≥ ((x10.Said.length : Nat) : Int))) || (!((x10.Said.getD x2.toNat .empty).toList == ((x4.get x0).getD x2.toNat .empty).toList)))
      (.leaf (.inr (.inl (false, x3, x4, x5))))
      (.leaf (.inl (x0, x1, IntKind.i64.wrap (x2 + 1), x3, x4, x5, x6, x7, x8, x9, x10)))))))
    (.leaf (.inr (.inr (x0, x3, x4, x5, x6, x7, x8, x9, x10)))))
def zje (x0 : Int) (x1 : Int) (x2 : Int) (x3 : Wld) (x4 : (A2 (List ByteArray))) (x5 : (A2 (List ByteArray))) (x6 : Deed) (x7 : Reply) (x8 : za) (x9 : zb) (x10 : zbk) : Option ((Bool × Wld × (A2 (List ByteArray)) × (A2 (List ByteArray))) ⊕ (Int × Wld × (A2 (List ByteArray)) × (A2 (List ByteArray)) × Deed × Reply × za × zb × zbk)) := zd5 (fun s : Int × Int × Int × Wld × (A2 (List ByteArray)) × (A2 (List ByteArray)) × Deed × Reply × za × zb × zbk => (zeg s.1 s.2.1 s.2.2.1 s.2.2.2.1 s.2.2.2.2.1 s.2.2.2.2.2.1 s.2.2.2.2.2.2.1 s.2.2.2.2.2.2.2.1 s.2.2.2.2.2.2.2.2.1 s.2.2.2.2.2.2.2.2.2.1 s.2.2.2.2.2.2.2.2.2.2).run) (x0, x1, x2, x3, x4, x5, x6, x7, x8, x9, x10)
def za0u : Ann := ⟨[], [], [], zapm, []⟩
def za0v : EndD (Int × Int × Int × Wld × (A2 (List ByteArray)) × (A2 (List ByteArray)) × Deed × Reply × za × zb × zbk) := ⟨(LQ.skip (LQ.const (.ptr 0 0)) (LQ.skip (LQ.const (.ptr 1 0)) (LQ.skip (LQ.const (.ptr 2 0)) (LQ.skip (LQ.const (.ptr 3 0)) (LQ.skip (LQ.const (.ptr 4 0)) (LQ.skip (LQ.const (.ptr 5 0)) (LQ.seq (Par.q intP) (LQ.skip (LQ.const (.ptr 6 0)) (LQ.skip (LQ.const (.ptr 7 0)) (LQ.seq (Par.q intP) (LQ.seq (Par.q intP) (LQ.seq (LP.q wldL) (LQ.seq (LP.q (a2L (LP.one zht))) (LQ.seq (LP.q (a2L (LP.one zht))) (LQ.seq (LP.q deedL) (LQ.seq (LP.q zqu) (LQ.seq (LP.q providerL) (LQ.seq (LP.q z9) (LP.q lineL))))))))))))))))))), ⟨[0, 3, 4, 6, 7, 9, 10, 11, 12, 48, 49], []⟩, [.cells 109 159, .cells 75 2, .cells 75 2, .cells 35 7, .cells 29 2, .cells 61 97, .cells 71 22, .cells 51 4]⟩
def zapp : EndD (Bool × Wld × (A2 (List ByteArray)) × (A2 (List ByteArray))) := ⟨(LQ.seq (Par.q boolP) (LQ.seq (LP.q wldL) (LQ.seq (LP.q (a2L (LP.one zht))) (LP.q (a2L (LP.one zht)))))), ⟨[8], []⟩, [.cells 109 159, .cells 75 2, .cells 75 2]⟩
def zapq : EndD (Int × Wld × (A2 (List ByteArray)) × (A2 (List ByteArray)) × Deed × Reply × za × zb × zbk) := ⟨(LQ.skip (LQ.const (.ptr 0 0)) (LQ.skip (LQ.const (.ptr 1 0)) (LQ.skip (LQ.const (.ptr 2 0)) (LQ.skip (LQ.const (.ptr 3 0)) (LQ.skip (LQ.const (.ptr 4 0)) (LQ.skip (LQ.const (.ptr 5 0)) (LQ.seq (Par.q intP) (LQ.skip (LQ.const (.ptr 6 0)) (LQ.skip (LQ.const (.ptr 7 0)) (LQ.seq (LP.q wldL) (LQ.seq (LP.q (a2L (LP.one zht))) (LQ.seq (LP.q (a2L (LP.one zht))) (LQ.seq (LP.q deedL) (LQ.seq (LP.q zqu) (LQ.seq (LP.q providerL) (LQ.seq (LP.q z9) (LP.q lineL))))))))))))))))), ⟨[0, 3, 4, 6, 7, 9, 10, 11, 12], []⟩, [.cells 109 159, .cells 75 2, .cells 75 2, .cells 35 7, .cells 29 2, .cells 61 97, .cells 71 22, .cells 51 4]⟩
def zasb : St → Option LR := L2 160 10 3 za0v .ret zapp (.exit 2) zapq (fun s => zeg s.1 s.2.1 s.2.2.1 s.2.2.2.1 s.2.2.2.2.1 s.2.2.2.2.2.1 s.2.2.2.2.2.2.1 s.2.2.2.2.2.2.2.1 s.2.2.2.2.2.2.2.2.1 s.2.2.2.2.2.2.2.2.2.1 s.2.2.2.2.2.2.2.2.2.2)
theorem za0w : zv (zapn).env 3 (sub zagd [0, 1, 0, 1, 1, 1, 0, 0, 1, 0, 0, 1, 0, 1, 1]) zasb :=
  zlc (A := za0u) zapo Facts.mix trivial (k := zb1 (sub zagd [0, 1, 0, 1, 1, 1, 0, 0, 1, 0, 0, 1, 0, 1, 1])) (by kernel_rfl) rfl rfl (by rintro ⟨x0, x1, x2, x3, x4, x5, x6, x7, x8, x9, x10⟩; kernel_rfl)
def zeh (x0 : Int) (x1 : Int) (x2 : Int) (x3 : Wld) (x4 : (A2 (List ByteArray))) (x5 : (A2 (List ByteArray))) (x6 : Deed) (x7 : Reply) (x8 : za) (x9 : zb) (x10 : zbk) : Tr ((Int × Int × Int × Wld × (A2 (List ByteArray)) × (A2 (List ByteArray)) × Deed × Reply × za × zb × zbk) ⊕ ((Bool × Wld × (A2 (List ByteArray)) × (A2 (List ByteArray))) ⊕ (Int × Wld × (A2 (List ByteArray)) × (A2 (List ByteArray)) × Deed × Reply × za × zb × zbk))) :=
  (.ite (decide (x2 < x1))
    (.guard (((decide (x2 ≥ ((x9.Out.Said.length : Nat) : Int))) = false → ((0 : Int) ≤ x2 ∧ x2 < ((Sl.len (.strs x9.Out.Said) : Nat) : Int)) ∧ True))
    (.guard (((decide (x2 ≥ ((x9.Out.Said.length : Nat) : Int))) = false → ((0 : Int) ≤ x0 ∧ (x0 : Int) < 2) ∧ True))
    (.guard (((decide (x2 ≥ ((x9.Out.Said.length : Nat) : Int))) = false → ((0 : Int) ≤ x2 ∧ x2 < ((Sl.len (.strs (x5.get x0)) : Nat) : Int)) ∧ True))
    (.ite ((decide (x2 ≥ ((x9.Out.Said.length : Nat) : Int))) || (!((x9.Out.Said.getD x2.toNat .empty).toList == ((x5.get x0).getD x2.toNat .empty).toList)))
      (.leaf (.inr (.inl (false, x3, x4, x5))))
      (.leaf (.inl (x0, x1, IntKind.i64.wrap (x2 + 1), x3, x4, x5, x6, x7, x8, x9, x10)))))))
    (.leaf (.inr (.inr (x0, x3, x4, x5, x6, x7, x8, x9, x10)))))
def zjf (x0 : Int) (x1 : Int) (x2 : Int) (x3 : Wld) (x4 : (A2 (List ByteArray))) (x5 : (A2 (List ByteArray))) (x6 : Deed) (x7 : Reply) (x8 : za) (x9 : zb) (x10 : zbk) : Option ((Bool × Wld × (A2 (List ByteArray)) × (A2 (List ByteArray))) ⊕ (Int × Wld × (A2 (List ByteArray)) × (A2 (List ByteArray)) × Deed × Reply × za × zb × zbk)) := zd5 (fun s : Int × Int × Int × Wld × (A2 (List ByteArray)) × (A2 (List ByteArray)) × Deed × Reply × za × zb × zbk => (zeh s.1 s.2.1 s.2.2.1 s.2.2.2.1 s.2.2.2.2.1 s.2.2.2.2.2.1 s.2.2.2.2.2.2.1 s.2.2.2.2.2.2.2.1 s.2.2.2.2.2.2.2.2.1 s.2.2.2.2.2.2.2.2.2.1 s.2.2.2.2.2.2.2.2.2.2).run) (x0, x1, x2, x3, x4, x5, x6, x7, x8, x9, x10)
def za0x : Ann := ⟨[], [], [], zapm, []⟩
def za0y : EndD (Int × Int × Int × Wld × (A2 (List ByteArray)) × (A2 (List ByteArray)) × Deed × Reply × za × zb × zbk) := ⟨(LQ.skip (LQ.const (.ptr 0 0)) (LQ.skip (LQ.const (.ptr 1 0)) (LQ.skip (LQ.const (.ptr 2 0)) (LQ.skip (LQ.const (.ptr 3 0)) (LQ.skip (LQ.const (.ptr 4 0)) (LQ.skip (LQ.const (.ptr 5 0)) (LQ.seq (Par.q intP) (LQ.skip (LQ.const (.ptr 6 0)) (LQ.skip (LQ.const (.ptr 7 0)) (LQ.seq (Par.q intP) (LQ.seq (Par.q intP) (LQ.seq (LP.q wldL) (LQ.seq (LP.q (a2L (LP.one zht))) (LQ.seq (LP.q (a2L (LP.one zht))) (LQ.seq (LP.q deedL) (LQ.seq (LP.q zqu) (LQ.seq (LP.q providerL) (LQ.seq (LP.q z9) (LP.q lineL))))))))))))))))))), ⟨[0, 3, 4, 6, 7, 9, 10, 11, 12, 75, 76], []⟩, [.cells 109 159, .cells 75 2, .cells 75 2, .cells 35 7, .cells 29 2, .cells 61 97, .cells 71 22, .cells 51 4]⟩
def zapr : EndD (Bool × Wld × (A2 (List ByteArray)) × (A2 (List ByteArray))) := ⟨(LQ.seq (Par.q boolP) (LQ.seq (LP.q wldL) (LQ.seq (LP.q (a2L (LP.one zht))) (LP.q (a2L (LP.one zht)))))), ⟨[8], []⟩, [.cells 109 159, .cells 75 2, .cells 75 2]⟩
def zaps : EndD (Int × Wld × (A2 (List ByteArray)) × (A2 (List ByteArray)) × Deed × Reply × za × zb × zbk) := ⟨(LQ.skip (LQ.const (.ptr 0 0)) (LQ.skip (LQ.const (.ptr 1 0)) (LQ.skip (LQ.const (.ptr 2 0)) (LQ.skip (LQ.const (.ptr 3 0)) (LQ.skip (LQ.const (.ptr 4 0)) (LQ.skip (LQ.const (.ptr 5 0)) (LQ.seq (Par.q intP) (LQ.skip (LQ.const (.ptr 6 0)) (LQ.skip (LQ.const (.ptr 7 0)) (LQ.seq (LP.q wldL) (LQ.seq (LP.q (a2L (LP.one zht))) (LQ.seq (LP.q (a2L (LP.one zht))) (LQ.seq (LP.q deedL) (LQ.seq (LP.q zqu) (LQ.seq (LP.q providerL) (LQ.seq (LP.q z9) (LP.q lineL))))))))))))))))), ⟨[0, 3, 4, 6, 7, 9, 10, 11, 12], []⟩, [.cells 109 159, .cells 75 2, .cells 75 2, .cells 35 7, .cells 29 2, .cells 61 97, .cells 71 22, .cells 51 4]⟩
def zasc : St → Option LR := L2 160 10 3 za0y .ret zapr (.exit 4) zaps (fun s => zeh s.1 s.2.1 s.2.2.1 s.2.2.2.1 s.2.2.2.2.1 s.2.2.2.2.2.1 s.2.2.2.2.2.2.1 s.2.2.2.2.2.2.2.1 s.2.2.2.2.2.2.2.2.1 s.2.2.2.2.2.2.2.2.2.1 s.2.2.2.2.2.2.2.2.2.2)
theorem za0z : zv (zapn).env 3 (sub zagd [0, 1, 0, 1, 1, 1, 1, 0, 0, 1, 0, 0, 1, 0, 1, 1]) zasc :=
  zlc (A := za0x) zapo Facts.mix trivial (k := zb1 (sub zagd [0, 1, 0, 1, 1, 1, 1, 0, 0, 1, 0, 0, 1, 0, 1, 1])) (by kernel_rfl) rfl rfl (by rintro ⟨x0, x1, x2, x3, x4, x5, x6, x7, x8, x9, x10⟩; kernel_rfl)
def zcz (x0 : Int) (x1 : Wld) (x2 : (A2 (List ByteArray))) (x3 : (A2 (List ByteArray))) (x4 : Deed) (x5 : Reply) (x6 : za) : Tr ((Int × Wld × (A2 (List ByteArray)) × (A2 (List ByteArray)) × Deed × Reply × za) ⊕ ((Bool × Wld × (A2 (List ByteArray)) × (A2 (List ByteArray))) ⊕ (Wld × (A2 (List ByteArray)) × (A2 (List ByteArray)) × Deed × Reply × za))) :=
  (.ite (decide (x0 < 2))
    (.bind (z8o 109 x1 (zg x0 x1)) fun v2 =>
    (.guard ((0 : Int) ≤ x0 ∧ (x0 : Int) < 2)
    (.ite ((decide ((x6.Links.Got.get x0) > (((x6.Links.Said.get x0).length : Nat) : Int))) || (decide (v2.1.Out.Got > ((v2.1.Out.Said.length : Nat) : Int))))
      (.leaf (.inr (.inl (false, x1, x2, x3))))
      (.guard ((0 : Int) ≤ x0 ∧ (x0 : Int) < 2)
      (.two (zje x0 (((x2.get x0).length : Nat) : Int) 0 x1 x2 x3 x4 x5 x6 v2.1 (zk x6.Links x0).Out) (fun v3 =>
        (.leaf (.inr (.inl (v3.1, v3.2.1, v3.2.2.1, v3.2.2.2))))) (fun v4 =>
        (.guard ((0 : Int) ≤ v4.1 ∧ (v4.1 : Int) < 2)
        (.two (zjf v4.1 (((v4.2.2.2.1.get v4.1).length : Nat) : Int) 0 v4.2.1 v4.2.2.1 v4.2.2.2.1 v4.2.2.2.2.1 v4.2.2.2.2.2.1 v4.2.2.2.2.2.2.1 v4.2.2.2.2.2.2.2.1 v4.2.2.2.2.2.2.2.2) (fun v5 =>
          (.leaf (.inr (.inl (v5.1, v5.2.1, v5.2.2.1, v5.2.2.2))))) (fun v6 =>
          (.guard ((0 : Int) ≤ v6.1 ∧ (v6.1 : Int) < 2)
          (.guard ((0 : Int) ≤ v6.1 ∧ (v6.1 : Int) < 2)
          (.leaf (.inl (IntKind.i64.wrap (v6.1 + 1), v6.2.1, (v6.2.2.1.set v6.1 v6.2.2.2.2.2.2.2.2.Said), (v6.2.2.2.1.set v6.1 v6.2.2.2.2.2.2.2.1.Out.Said), v6.2.2.2.2.1, v6.2.2.2.2.2.1, v6.2.2.2.2.2.2.1))))))))))))))
    (.leaf (.inr (.inr (x1, x2, (⟨x3.x0, x3.x1⟩ : (A2 (List ByteArray))), (⟨x4.Kind, x4.C, x4.D, x4.V, x4.N, x4.Back, x4.Forged⟩ : Deed), (⟨x5.Code, x5.N⟩ : Reply), (⟨x6.Height, x6.Time, x6.Stake, x6.Set, x6.Links, x6.Meter, x6.Queue⟩ : za))))))
def zjg (x0 : Int) (x1 : Wld) (x2 : (A2 (List ByteArray))) (x3 : (A2 (List ByteArray))) (x4 : Deed) (x5 : Reply) (x6 : za) : Option ((Bool × Wld × (A2 (List ByteArray)) × (A2 (List ByteArray))) ⊕ (Wld × (A2 (List ByteArray)) × (A2 (List ByteArray)) × Deed × Reply × za)) := zd5 (fun s : Int × Wld × (A2 (List ByteArray)) × (A2 (List ByteArray)) × Deed × Reply × za => (zcz s.1 s.2.1 s.2.2.1 s.2.2.2.1 s.2.2.2.2.1 s.2.2.2.2.2.1 s.2.2.2.2.2.2).run) (x0, x1, x2, x3, x4, x5, x6)
def za00 : Ann := ⟨[([0, 1, 0, 1, 1, 1, 0, 0, 1, 0, 0, 1, 0, 1, 1], zasb), ([0, 1, 0, 1, 1, 1, 1, 0, 0, 1, 0, 0, 1, 0, 1, 1], zasc)], [], [], zapm, []⟩
def za01 : EndD (Int × Wld × (A2 (List ByteArray)) × (A2 (List ByteArray)) × Deed × Reply × za) := ⟨(LQ.skip (LQ.const (.ptr 0 0)) (LQ.skip (LQ.const (.ptr 1 0)) (LQ.skip (LQ.const (.ptr 2 0)) (LQ.skip (LQ.const (.ptr 3 0)) (LQ.skip (LQ.const (.ptr 4 0)) (LQ.skip (LQ.const (.ptr 5 0)) (LQ.seq (Par.q intP) (LQ.seq (LP.q wldL) (LQ.seq (LP.q (a2L (LP.one zht))) (LQ.seq (LP.q (a2L (LP.one zht))) (LQ.seq (LP.q deedL) (LQ.seq (LP.q zqu) (LP.q providerL))))))))))))), ⟨[0, 3, 4, 6, 7, 9, 10], []⟩, [.cells 109 159, .cells 75 2, .cells 75 2, .cells 35 7, .cells 29 2, .cells 61 97]⟩
def zapt : EndD (Bool × Wld × (A2 (List ByteArray)) × (A2 (List ByteArray))) := ⟨(LQ.seq (Par.q boolP) (LQ.seq (LP.q wldL) (LQ.seq (LP.q (a2L (LP.one zht))) (LP.q (a2L (LP.one zht)))))), ⟨[8], []⟩, [.cells 109 159, .cells 75 2, .cells 75 2]⟩
def zapu : EndD (Wld × (A2 (List ByteArray)) × (A2 (List ByteArray)) × Deed × Reply × za) := ⟨(LQ.skip (LQ.const (.ptr 0 0)) (LQ.skip (LQ.const (.ptr 3 0)) (LQ.skip (LQ.const (.ptr 4 0)) (LQ.skip (LQ.const (.ptr 5 0)) (LQ.seq (LP.q wldL) (LQ.seq (LP.q (a2L (LP.one zht))) (LQ.seq (LP.q (a2L (LP.one zht))) (LQ.seq (LP.q deedL) (LQ.seq (LP.q zqu) (LP.q providerL)))))))))), ⟨[0, 6, 7, 9], []⟩, [.cells 109 159, .cells 75 2, .cells 75 2, .cells 35 7, .cells 29 2, .cells 61 97]⟩
def zasd : St → Option LR := L2 160 10 3 za01 .ret zapt (.exit 0) zapu (fun s => zcz s.1 s.2.1 s.2.2.1 s.2.2.2.1 s.2.2.2.2.1 s.2.2.2.2.2.1 s.2.2.2.2.2.2)
theorem za02 : zv (zapn).env 3 (sub zagd [0, 1, 0, 1, 1]) zasd :=
  zlc (A := za00) zapo Facts.mix ⟨za0w, za0z, trivial⟩ (k := zb1 (sub zagd [0, 1, 0, 1, 1])) (by kernel_rfl) rfl rfl (by rintro ⟨x0, x1, x2, x3, x4, x5, x6⟩; kernel_rfl)
def zbcz : Ann := ⟨[([0, 1, 0, 1, 1], zasd)], [], [], zapm, []⟩
def zkg (a0 : Deed) (a1 : Reply) (a2 : Wld) (a3 : (A2 (List ByteArray))) (a4 : (A2 (List ByteArray))) : Tr (Bool × Wld × (A2 (List ByteArray)) × (A2 (List ByteArray))) :=
  (.bind (z8o 109 a2 (zi a2)) fun v1 =>
  (.two (zjg 0 a2 a3 a4 a0 a1 v1.1) (fun v7 =>
    (.leaf (v7.1, v7.2.1, v7.2.2.1, v7.2.2.2))) (fun v8 =>
    (.guard ((v8.2.2.2.1.Back = true → (((decide (v8.2.2.2.1.C ≥ 0)) && (decide (v8.2.2.2.1.C < 2))) = true → (((v8.2.2.2.1.Kind != 9) || (v8.2.2.2.2.1.Code != 0)) = false → ((z8o 109 v8.1 (zg v8.2.2.2.1.C v8.1)).isSome = true) ∧ True))))
    (.guard (((!v8.2.2.2.1.Back) = true → ((v8.2.2.2.1.Back && (v8.2.2.2.2.1.N == ((z8o 109 v8.1 (zg v8.2.2.2.1.C v8.1)).getD default).1.Out.Got)) = false → (((decide (v8.2.2.2.1.C ≥ 0)) && (decide (v8.2.2.2.1.C < 2))) = true → (((v8.2.2.2.1.Kind != 9) || (v8.2.2.2.2.1.Code != 0)) = false → ((0 : Int) ≤ v8.2.2.2.1.C ∧ (v8.2.2.2.1.C : Int) < 2) ∧ True)))))
    (.leaf (((v8.2.2.2.1.Kind != 9) || (v8.2.2.2.2.1.Code != 0)) || (((decide (v8.2.2.2.1.C ≥ 0)) && (decide (v8.2.2.2.1.C < 2))) && ((v8.2.2.2.1.Back && (v8.2.2.2.2.1.N == ((z8o 109 v8.1 (zg v8.2.2.2.1.C v8.1)).getD default).1.Out.Got)) || ((!v8.2.2.2.1.Back) && (v8.2.2.2.2.1.N == (v8.2.2.2.2.2.Links.Got.get v8.2.2.2.1.C))))), v8.1, v8.2.1, v8.2.2.1)))))))
def zba (a0 : Deed) (a1 : Reply) (a2 : Wld) (a3 : (A2 (List ByteArray))) (a4 : (A2 (List ByteArray))) : Option (Bool × Wld × (A2 (List ByteArray)) × (A2 (List ByteArray))) := (zkg a0 a1 a2 a3 a4).run
def za03 : LQ (Deed × Reply × Wld × (A2 (List ByteArray)) × (A2 (List ByteArray))) := (LQ.skip (LQ.const (.ptr 0 0)) (LQ.seq (Par.q (Par.ofLP deedL)) (LQ.seq (Par.q (Par.ofLP zqu)) (LQ.skip (LQ.const (.ptr 1 0)) (LQ.skip (LQ.const (.ptr 2 0)) (LQ.seq (LP.q wldL) (LQ.seq (LP.q (a2L (LP.one zht))) (LP.q (a2L (LP.one zht))))))))))
def zuo : LQ (Bool × Wld × (A2 (List ByteArray)) × (A2 (List ByteArray))) := (LQ.seq (Par.q boolP) (LQ.seq (LP.q wldL) (LQ.seq (LP.q (a2L (LP.one zht))) (LP.q (a2L (LP.one zht))))))
def zw1 : SpecT := zx 3 za03 5 [.cells 109 159, .cells 75 2, .cells 75 2] (fun s => zkg s.1 s.2.1 s.2.2.1 s.2.2.2.1 s.2.2.2.2) default zuo 1 [.cells 109 159, .cells 75 2, .cells 75 2]
theorem z3w : zj Tryz.prog 26 (zw1).spec :=
  zf (A := zbcz) zapo Facts.mix Tryz.func26 (c := zagd) (by kernel_rfl) (Lc := 3) ⟨za02, trivial⟩ za03 5 10 [.cells 109 159, .cells 75 2, .cells 75 2] (fun s => zkg s.1 s.2.1 s.2.2.1 s.2.2.2.1 s.2.2.2.2) default zuo 1 [.cells 109 159, .cells 75 2, .cells 75 2] [.pubN 0, .pubN 1, .pubN 2] (by decide) (by kernel_rfl) (by rfl) (by decide) (by decide) (by rfl)
    (by rintro ⟨a0, a1, a2, a3, a4⟩; kernel_rfl)
noncomputable def zavf : Code := Tryz.f17.body.getD .skip
def za04 : List (List Nat) := [[0, 1], [0, 1, 10], [4, 5], [0, 1, 6], [0, 1, 6, 7], [0, 1, 6, 7, 19], [0, 1, 6, 7], [0, 1, 6, 7, 8], [0, 1, 6, 7, 36], [4, 5], [4, 5]]
noncomputable def za05 : EnvT := ⟨Tryz.prog, zw [(15, zvs), (43, zrl), (29, zcl), (26, zw1)]⟩
theorem za06 : (za05).Ok := ze ⟨zye, zta, zcy, z3w, trivial⟩
def zf8 (x0 : (List Deed)) (x1 : Int) (x2 : (A2 (List ByteArray))) (x3 : (A2 (List ByteArray))) (x4 : Wld) : Tr (((List Deed) × Int × (A2 (List ByteArray)) × (A2 (List ByteArray)) × Wld) ⊕ ((Bool × (A2 (List ByteArray)) × (A2 (List ByteArray)) × Wld) ⊕ ((A2 (List ByteArray)) × (A2 (List ByteArray)) × Wld))) :=
  (.ite ((decide (x1 < ((x0.length : Nat) : Int))) && (decide (x1 < 120)))
    (.guard ((0 : Int) ≤ x1 ∧ x1 < ((Sl.len (.deeds x0) : Nat) : Int))
    (.bind (zd (x0.getD x1.toNat default) x4) fun v3 =>
    (.guard ((0 : Int) ≤ x1 ∧ x1 < ((Sl.len (.deeds x0) : Nat) : Int))
    (.guard ((zba (x0.getD x1.toNat default) v3.1 v3.2 x2 x3).isSome = true)
    (.ite (!((zba (x0.getD x1.toNat default) v3.1 v3.2 x2 x3).getD default).1)
      (.leaf (.inr (.inl (false, (((zba (x0.getD x1.toNat default) v3.1 v3.2 x2 x3).getD default).2.2.1), (((zba (x0.getD x1.toNat default) v3.1 v3.2 x2 x3).getD default).2.2.2), ((zba (x0.getD x1.toNat default) v3.1 v3.2 x2 x3).getD default).2.1))))
      (.leaf (.inl (x0, IntKind.i64.wrap (x1 + 1), (((zba (x0.getD x1.toNat default) v3.1 v3.2 x2 x3).getD default).2.2.1), (((zba (x0.getD x1.toNat default) v3.1 v3.2 x2 x3).getD default).2.2.2), ((zba (x0.getD x1.toNat default) v3.1 v3.2 x2 x3).getD default).2.1))))))))
    (.leaf (.inr (.inr (x2, x3, x4)))))
def zmj (x0 : (List Deed)) (x1 : Int) (x2 : (A2 (List ByteArray))) (x3 : (A2 (List ByteArray))) (x4 : Wld) : Option ((Bool × (A2 (List ByteArray)) × (A2 (List ByteArray)) × Wld) ⊕ ((A2 (List ByteArray)) × (A2 (List ByteArray)) × Wld)) := zd5 (fun s : (List Deed) × Int × (A2 (List ByteArray)) × (A2 (List ByteArray)) × Wld => (zf8 s.1 s.2.1 s.2.2.1 s.2.2.2.1 s.2.2.2.2).run) (x0, x1, x2, x3, x4)
def za07 : Ann := ⟨[], [], [], za04, []⟩
def za08 : EndD ((List Deed) × Int × (A2 (List ByteArray)) × (A2 (List ByteArray)) × Wld) := ⟨(LQ.seq (Par.q deedsP) (LQ.skip (LQ.const (.fn 26 [.ptr 0 0, .ptr 1 0])) (LQ.skip (LQ.const (.ptr 2 0)) (LQ.seq (Par.q intP) (LQ.seq (LP.q (a2L (LP.one zht))) (LQ.seq (LP.q (a2L (LP.one zht))) (LP.q wldL))))))), ⟨[0, 1, 6, 7], [.pub 0, .nilsl 0 (.deeds [])]⟩, [.cells 75 2, .cells 75 2, .cells 109 159]⟩
def zapv : EndD (Bool × (A2 (List ByteArray)) × (A2 (List ByteArray)) × Wld) := ⟨(LQ.skip (LQ.const (.ptr 2 0)) (LQ.seq (Par.q boolP) (LQ.seq (LP.q (a2L (LP.one zht))) (LQ.seq (LP.q (a2L (LP.one zht))) (LP.q wldL))))), ⟨[4, 5], [.pubB 4]⟩, [.cells 75 2, .cells 75 2, .cells 109 159]⟩
def zapw : EndD ((A2 (List ByteArray)) × (A2 (List ByteArray)) × Wld) := ⟨(LQ.skip (LQ.const (.ptr 2 0)) (LQ.seq (LP.q (a2L (LP.one zht))) (LQ.seq (LP.q (a2L (LP.one zht))) (LP.q wldL)))), ⟨[6], []⟩, [.cells 75 2, .cells 75 2, .cells 109 159]⟩
def zase : St → Option LR := L2 39 6 2 za08 .ret zapv (.exit 0) zapw (fun s => zf8 s.1 s.2.1 s.2.2.1 s.2.2.2.1 s.2.2.2.2)
theorem za09 : zv (za05).env 2 (sub zavf [0, 1, 0, 1, 1, 1]) zase :=
  zlc (A := za07) za06 Facts.mix trivial (k := zb1 (sub zavf [0, 1, 0, 1, 1, 1])) (by kernel_rfl) rfl rfl (by rintro ⟨x0, x1, x2, x3, x4⟩; kernel_rfl)
def zbc0 : Ann := ⟨[([0, 1, 0, 1, 1, 1], zase)], [], [], za04, []⟩
def zn9 (a0 : (List Deed)) (a1 : (A2 (List ByteArray))) (a2 : (A2 (List ByteArray))) : Tr (Bool × (A2 (List ByteArray)) × (A2 (List ByteArray)) × Wld) :=
  (.bind (zk9) fun v1 =>
  (.ite (!v1)
    .fail
    (.bind (zk8) fun v2 =>
    (.two (zmj a0 0 a1 a2 v2) (fun v4 =>
      (.leaf (v4.1, v4.2.1, v4.2.2.1, v4.2.2.2))) (fun v5 =>
      (.leaf (true, v5.1, v5.2.1, v5.2.2)))))))
def zyi (a0 : (List Deed)) (a1 : (A2 (List ByteArray))) (a2 : (A2 (List ByteArray))) : Option (Bool × (A2 (List ByteArray)) × (A2 (List ByteArray)) × Wld) := (zn9 a0 a1 a2).run
def za1a : LQ ((List Deed) × (A2 (List ByteArray)) × (A2 (List ByteArray))) := (LQ.seq (Par.q deedsP) (LQ.skip (LQ.const (.fn 26 [.ptr 0 0, .ptr 1 0])) (LQ.seq (LP.q (a2L (LP.one zht))) (LP.q (a2L (LP.one zht))))))
def zyj : LQ (Bool × (A2 (List ByteArray)) × (A2 (List ByteArray)) × Wld) := (LQ.skip (LQ.const (.ptr 2 0)) (LQ.seq (Par.q boolP) (LQ.seq (LP.q (a2L (LP.one zht))) (LQ.seq (LP.q (a2L (LP.one zht))) (LP.q wldL)))))
def z0l : SpecT := zx 2 za1a 2 [.cells 75 2, .cells 75 2] (fun s => zn9 s.1 s.2.1 s.2.2) default zyj 2 [.cells 75 2, .cells 75 2, .cells 109 159]
theorem z7i : zj Tryz.prog 17 (z0l).spec :=
  zf (A := zbc0) za06 Facts.mix Tryz.func17 (c := zavf) (by kernel_rfl) (Lc := 2) ⟨za09, trivial⟩ za1a 2 6 [.cells 75 2, .cells 75 2] (fun s => zn9 s.1 s.2.1 s.2.2) default zyj 2 [.cells 75 2, .cells 75 2, .cells 109 159] [.pubN 0, .pubN 1, .pubB 4] (by decide) (by kernel_rfl) (by rfl) (by decide) (by decide) (by rfl)
    (by rintro ⟨a0, a1, a2⟩; kernel_rfl)
noncomputable def zbc1 : Code := Tryz.f6.body.getD .skip
def zbc2 : List (List Nat) := [[0], [0, 3, 4], [6], [2]]
noncomputable def zbc3 : EnvT := ⟨Tryz.prog, zw [(17, z0l)]⟩
theorem zbc4 : (zbc3).Ok := ze ⟨z7i, trivial⟩
def zbc5 : Ann := ⟨[], [], [], zbc2, []⟩
def zoa (a0 : (List Deed)) : Tr (Bool) :=
  (.bind (zyi a0 (⟨[], []⟩ : (A2 (List ByteArray))) (⟨[], []⟩ : (A2 (List ByteArray)))) fun v1 =>
  (.leaf v1.1))
def zmk (a0 : (List Deed)) : Option (Bool) := (zoa a0).run
def za1b : LQ ((List Deed)) := (Par.q deedsP)
def qr_top_TopOrder : LQ (Bool) := (Par.q boolP)
def z9d : SpecT := zx 0 za1b 1 [] (fun s => zoa s) default qr_top_TopOrder 1 []
theorem z7j : zj Tryz.prog 6 (z9d).spec :=
  zf (A := zbc5) zbc4 Facts.mix Tryz.func6 (c := zbc1) (by kernel_rfl) (Lc := 0) trivial za1b 1 5 [] (fun s => zoa s) default qr_top_TopOrder 1 [] [] (by decide) (by kernel_rfl) (by rfl) (by decide) (by decide) (by rfl)
    (by rintro a0; kernel_rfl)
noncomputable def zavg : Code := Tryz.f3.body.getD .skip
def za1c : List (List Nat) := [[0, 1], [0, 1, 16], [4], [0, 1], [0, 1, 24], [0, 1], [0, 1, 5, 6], [0, 1, 5, 6, 7, 8], [1, 5, 7, 59], [4], [1, 5, 7, 9], [1, 5, 7, 9, 62], [1, 5, 7, 9], [1, 5, 7, 9, 73], [4], [4]]
noncomputable def za1d : EnvT := ⟨Tryz.prog, zw [(15, zvs), (16, z7g)]⟩
theorem za1e : (za1d).Ok := ze ⟨zye, zadz, trivial⟩
def zkh (x0 : Int) (x1 : (List Reply)) (x2 : (List Reply)) (x3 : Int) : Tr ((Int × (List Reply) × (List Reply) × Int) ⊕ ((Bool) ⊕ (Unit))) :=
  (.ite (decide (x3 < x0))
    (.guard ((0 : Int) ≤ x3 ∧ x3 < ((Sl.len (.replies x1) : Nat) : Int))
    (.guard ((0 : Int) ≤ x3 ∧ x3 < ((Sl.len (.replies x2) : Nat) : Int))
    (.ite (!(((x1.getD x3.toNat default).Code == (x2.getD x3.toNat default).Code) && (((x1.getD x3.toNat default).N == (x2.getD x3.toNat default).N) && true)))
      (.leaf (.inr (.inl false)))
      (.leaf (.inl (x0, x1, x2, IntKind.i64.wrap (x3 + 1)))))))
    (.leaf (.inr (.inr ()))))
def zna (x0 : Int) (x1 : (List Reply)) (x2 : (List Reply)) (x3 : Int) : Option ((Bool) ⊕ (Unit)) := zd5 (fun s : Int × (List Reply) × (List Reply) × Int => (zkh s.1 s.2.1 s.2.2.1 s.2.2.2).run) (x0, x1, x2, x3)
def zg6 (x0 : Int) (x1 : (List Reply)) (x2 : (List Reply)) (x3 : Int) : Tr ((Int × (List Reply) × (List Reply) × Int) ⊕ ((Bool) ⊕ (Unit))) :=
  (.ite (decide (x3 < x0))
    (.guard ((0 : Int) ≤ x3 ∧ x3 < ((Sl.len (.replies x1) : Nat) : Int))
    (.guard ((0 : Int) ≤ x3 ∧ x3 < ((Sl.len (.replies x2) : Nat) : Int))
    (.ite (!(((x1.getD x3.toNat default).Code == (x2.getD x3.toNat default).Code) && (((x1.getD x3.toNat default).N == (x2.getD x3.toNat default).N) && true)))
      (.leaf (.inr (.inl false)))
      (.leaf (.inl (x0, x1, x2, IntKind.i64.wrap (x3 + 1)))))))
    (.leaf (.inr (.inr ()))))
def znb (x0 : Int) (x1 : (List Reply)) (x2 : (List Reply)) (x3 : Int) : Option ((Bool) ⊕ (Unit)) := zd5 (fun s : Int × (List Reply) × (List Reply) × Int => (zg6 s.1 s.2.1 s.2.2.1 s.2.2.2).run) (x0, x1, x2, x3)
def za1f : Ann := ⟨[], [], [], za1c, []⟩
def za1g : EndD (Int × (List Reply) × (List Reply) × Int) := ⟨(LQ.seq (Par.q intP) (LQ.seq (Par.q z17) (LQ.seq (Par.q z17) (Par.q intP)))), ⟨[1, 5, 7, 9], [.pub 5, .nilsl 5 (.replies []), .pub 7, .nilsl 7 (.replies [])]⟩, []⟩
def zapx : EndD (Bool) := ⟨(Par.q boolP), ⟨[4], []⟩, []⟩
def zapy : EndD (Unit) := ⟨LQ.nil, ⟨[], []⟩, []⟩
def zasf : St → Option LR := L2 74 4 0 za1g .ret zapx (.exit 0) zapy (fun s => zg6 s.1 s.2.1 s.2.2.1 s.2.2.2)
theorem za1h : zv (za1d).env 0 (sub zavg [0, 1, 0, 1, 1, 1, 1, 1, 1, 1]) zasf :=
  zlc (A := za1f) za1e Facts.mix trivial (k := zb1 (sub zavg [0, 1, 0, 1, 1, 1, 1, 1, 1, 1])) (by kernel_rfl) rfl rfl (by rintro ⟨x0, x1, x2, x3⟩; kernel_rfl)
def zbc6 : Ann := ⟨[([0, 1, 0, 1, 1, 1, 1, 1, 1, 1], zasf)], [], [], za1c, []⟩
def zqj (a0 : (List Deed)) (a1 : Int) : Tr (Bool) :=
  (.bind (zk9) fun v1 =>
  (.ite ((!v1) || (decide (((a0.length : Nat) : Int) > 120)))
    (.bind (zk9) fun v2 =>
    (.leaf v2))
    (.guard ((IntKind.i64.wrap (((a0.length : Nat) : Int) + 1)) ≠ 0)
    (.ite (decide ((Int.tmod a1 (IntKind.i64.wrap (((a0.length : Nat) : Int) + 1))) < 0))
      (.guard ((0 + Sl.len (.deeds a0)) * 48 ≤ 140737488355328)
      (.bind (zic a0) fun v4 =>
      (.guard ((0 : Int) ≤ 0 ∧ 0 ≤ ((IntKind.i64.wrap (0 - (Int.tmod a1 (IntKind.i64.wrap (((a0.length : Nat) : Int) + 1))))) : Int) ∧ (IntKind.i64.wrap (0 - (Int.tmod a1 (IntKind.i64.wrap (((a0.length : Nat) : Int) + 1))))) ≤ ((Sl.len (.deeds a0) : Nat) : Int))
      (.guard ((0 + Sl.len (.deeds ((a0.drop 0).take ((IntKind.i64.wrap (0 - (Int.tmod a1 (IntKind.i64.wrap (((a0.length : Nat) : Int) + 1))))).toNat - 0)))) * 48 ≤ 140737488355328)
      (.bind (zic ((a0.drop 0).take ((IntKind.i64.wrap (0 - (Int.tmod a1 (IntKind.i64.wrap (((a0.length : Nat) : Int) + 1))))).toNat - 0))) fun v6 =>
      (.ite ((((v4.2 != 0) || (v6.2 != 0)) || (((v4.1.length : Nat) : Int) != ((a0.length : Nat) : Int))) || (((v6.1.length : Nat) : Int) != (IntKind.i64.wrap (0 - (Int.tmod a1 (IntKind.i64.wrap (((a0.length : Nat) : Int) + 1)))))))
        (.leaf false)
        (.two (zna (IntKind.i64.wrap (0 - (Int.tmod a1 (IntKind.i64.wrap (((a0.length : Nat) : Int) + 1))))) v4.1 v6.1 0) (fun v7 =>
          (.leaf v7)) (fun v8 =>
          (.leaf true)))))))))
      (.guard ((0 + Sl.len (.deeds a0)) * 48 ≤ 140737488355328)
      (.bind (zic a0) fun v10 =>
      (.guard ((0 : Int) ≤ 0 ∧ 0 ≤ ((Int.tmod a1 (IntKind.i64.wrap (((a0.length : Nat) : Int) + 1))) : Int) ∧ (Int.tmod a1 (IntKind.i64.wrap (((a0.length : Nat) : Int) + 1))) ≤ ((Sl.len (.deeds a0) : Nat) : Int))
      (.guard ((0 + Sl.len (.deeds ((a0.drop 0).take ((Int.tmod a1 (IntKind.i64.wrap (((a0.length : Nat) : Int) + 1))).toNat - 0)))) * 48 ≤ 140737488355328)
      (.bind (zic ((a0.drop 0).take ((Int.tmod a1 (IntKind.i64.wrap (((a0.length : Nat) : Int) + 1))).toNat - 0))) fun v12 =>
      (.ite ((((v10.2 != 0) || (v12.2 != 0)) || (((v10.1.length : Nat) : Int) != ((a0.length : Nat) : Int))) || (((v12.1.length : Nat) : Int) != (Int.tmod a1 (IntKind.i64.wrap (((a0.length : Nat) : Int) + 1)))))
        (.leaf false)
        (.two (znb (Int.tmod a1 (IntKind.i64.wrap (((a0.length : Nat) : Int) + 1))) v10.1 v12.1 0) (fun v13 =>
          (.leaf v13)) (fun v14 =>
          (.leaf true)))))))))))))
def zob (a0 : (List Deed)) (a1 : Int) : Option (Bool) := (zqj a0 a1).run
def za1i : LQ ((List Deed) × Int) := (LQ.seq (Par.q deedsP) (Par.q intP))
def qr_top_TopRuns : LQ (Bool) := (Par.q boolP)
def zab0 : SpecT := zx 0 za1i 2 [] (fun s => zqj s.1 s.2) default qr_top_TopRuns 1 []
theorem z9e : zj Tryz.prog 3 (zab0).spec :=
  zf (A := zbc6) za1e Facts.mix Tryz.func3 (c := zavg) (by kernel_rfl) (Lc := 0) ⟨za1h, trivial⟩ za1i 2 4 [] (fun s => zqj s.1 s.2) default qr_top_TopRuns 1 [] [] (by decide) (by kernel_rfl) (by rfl) (by decide) (by decide) (by rfl)
    (by rintro ⟨a0, a1⟩; kernel_rfl)
noncomputable def zbc7 : Code := Tryz.f7.body.getD .skip
def zbc8 : List (List Nat) := [[0, 1, 2], [1, 2, 7, 8], [1, 2, 7, 24], [6], [1, 2, 7, 30], [1, 2, 7], [1, 2, 7, 9, 10], [1, 2, 7, 9, 10, 11], [1, 2, 7, 9, 10, 11, 41], [1, 2, 7, 9, 10, 11], [1, 2, 7, 9, 10, 11, 12], [1, 2, 7, 9, 10, 11, 12, 49], [1, 2, 7, 9, 10, 12], [1, 2, 7, 9, 10, 12, 13], [1, 7, 9, 10, 12, 13, 15], [1, 7, 9, 10, 12, 13, 71], [6], [1, 9, 10, 16, 17], [6]]
noncomputable def zbc9 : EnvT := ⟨Tryz.prog, zw [(17, ztd), (19, zel), (23, zcu), (28, zjt), (29, zcl)]⟩
theorem zbda : (zbc9).Ok := ze ⟨zvu, zgt, zd3, zlq, zcy, trivial⟩
def zbdb : Ann := ⟨[], [], [], zbc8, []⟩
def zml (a0 : (List Deed)) (a1 : Int) (a2 : Bool) : Tr (Bool) :=
  (.bind (zmi a0) fun v1 =>
  (.ite (!v1.1)
    (.leaf false)
    (.ite ((decide (a1 < 0)) || (decide (a1 ≥ 2)))
      (.bind (zi v1.2) fun v2 =>
      (.bind (zg 0 v2.2) fun v3 =>
      (.guard ((0 : Int) ≤ 0 ∧ (0 : Int) < 2)
      (.ite (a2)
        (.ite (decide (v3.1.Out.Got < ((v3.1.Out.Said.length : Nat) : Int)))
          (.guard ((0 : Int) ≤ v3.1.Out.Got ∧ v3.1.Out.Got < ((Sl.len (.strs v3.1.Out.Said) : Nat) : Int))
          (.bind (z5 (⟨3, 1, 0, IntKind.i64.wrap (1 + (((v3.1.Out.Said.getD v3.1.Out.Got.toNat .empty).size : Nat) : Int)), [], []⟩ : Packet)) fun v4 =>
          (.bind (zd (⟨9, 0, 0, 0, 0, a2, true⟩ : Deed) v3.2) fun v5 =>
          (.ite (v5.1.Code == 0)
            (.leaf (v4.1.toList == (v3.1.Out.Said.getD v3.1.Out.Got.toNat .empty).toList))
            (.bind (zi v5.2) fun v6 =>
            (.bind (zg 0 v6.2) fun v7 =>
            (.guard ((0 : Int) ≤ 0 ∧ (0 : Int) < 2)
            (.guard ((0 : Int) ≤ 0 ∧ (0 : Int) < 2)
            (.leaf (((((v6.1.Links.Got.x0 == v2.1.Links.Got.x0) && (v7.1.Out.Got == v3.1.Out.Got)) && (((v6.1.Queue.length : Nat) : Int) == ((v2.1.Queue.length : Nat) : Int))) && (((v7.1.Pending.length : Nat) : Int) == ((v3.1.Pending.length : Nat) : Int))) && (zty v6.1.Stake.Bank v2.1.Stake.Bank)))))))))))
          (.bind (z5 (⟨3, 1, 0, IntKind.i64.wrap (1 + (((⟨#[]⟩ : ByteArray).size : Nat) : Int)), [], []⟩ : Packet)) fun v8 =>
          (.bind (zd (⟨9, 0, 0, 0, 0, a2, true⟩ : Deed) v3.2) fun v9 =>
          (.ite (v9.1.Code == 0)
            (.leaf (v8.1.toList == (⟨#[]⟩ : ByteArray).toList))
            (.bind (zi v9.2) fun v10 =>
            (.bind (zg 0 v10.2) fun v11 =>
            (.guard ((0 : Int) ≤ 0 ∧ (0 : Int) < 2)
            (.guard ((0 : Int) ≤ 0 ∧ (0 : Int) < 2)
            (.leaf (((((v10.1.Links.Got.x0 == v2.1.Links.Got.x0) && (v11.1.Out.Got == v3.1.Out.Got)) && (((v10.1.Queue.length : Nat) : Int) == ((v2.1.Queue.length : Nat) : Int))) && (((v11.1.Pending.length : Nat) : Int) == ((v3.1.Pending.length : Nat) : Int))) && (zty v10.1.Stake.Bank v2.1.Stake.Bank)))))))))))
        (.ite (decide (v2.1.Links.Got.x0 < ((v2.1.Links.Said.x0.length : Nat) : Int)))
          (.guard ((0 : Int) ≤ v2.1.Links.Got.x0 ∧ v2.1.Links.Got.x0 < ((Sl.len (.strs v2.1.Links.Said.x0) : Nat) : Int))
          (.bind (z5 (⟨3, 1, 0, IntKind.i64.wrap (1 + (((v2.1.Links.Said.x0.getD v2.1.Links.Got.x0.toNat .empty).size : Nat) : Int)), [], []⟩ : Packet)) fun v12 =>
          (.bind (zd (⟨9, 0, 0, 0, 0, a2, true⟩ : Deed) v3.2) fun v13 =>
          (.ite (v13.1.Code == 0)
            (.leaf (v12.1.toList == (v2.1.Links.Said.x0.getD v2.1.Links.Got.x0.toNat .empty).toList))
            (.bind (zi v13.2) fun v14 =>
            (.bind (zg 0 v14.2) fun v15 =>
            (.guard ((0 : Int) ≤ 0 ∧ (0 : Int) < 2)
            (.guard ((0 : Int) ≤ 0 ∧ (0 : Int) < 2)
            (.leaf (((((v14.1.Links.Got.x0 == v2.1.Links.Got.x0) && (v15.1.Out.Got == v3.1.Out.Got)) && (((v14.1.Queue.length : Nat) : Int) == ((v2.1.Queue.length : Nat) : Int))) && (((v15.1.Pending.length : Nat) : Int) == ((v3.1.Pending.length : Nat) : Int))) && (zty v14.1.Stake.Bank v2.1.Stake.Bank)))))))))))
          (.bind (z5 (⟨3, 1, 0, IntKind.i64.wrap (1 + (((⟨#[]⟩ : ByteArray).size : Nat) : Int)), [], []⟩ : Packet)) fun v16 =>
          (.bind (zd (⟨9, 0, 0, 0, 0, a2, true⟩ : Deed) v3.2) fun v17 =>
          (.ite (v17.1.Code == 0)
            (.leaf (v16.1.toList == (⟨#[]⟩ : ByteArray).toList))
            (.bind (zi v17.2) fun v18 =>
            (.bind (zg 0 v18.2) fun v19 =>
            (.guard ((0 : Int) ≤ 0 ∧ (0 : Int) < 2)
            (.guard ((0 : Int) ≤ 0 ∧ (0 : Int) < 2)
            (.leaf (((((v18.1.Links.Got.x0 == v2.1.Links.Got.x0) && (v19.1.Out.Got == v3.1.Out.Got)) && (((v18.1.Queue.length : Nat) : Int) == ((v2.1.Queue.length : Nat) : Int))) && (((v19.1.Pending.length : Nat) : Int) == ((v3.1.Pending.length : Nat) : Int))) && (zty v18.1.Stake.Bank v2.1.Stake.Bank)))))))))))))))
      (.bind (zi v1.2) fun v20 =>
      (.bind (zg a1 v20.2) fun v21 =>
      (.guard ((0 : Int) ≤ a1 ∧ (a1 : Int) < 2)
      (.ite (a2)
        (.ite (decide (v21.1.Out.Got < ((v21.1.Out.Said.length : Nat) : Int)))
          (.guard ((0 : Int) ≤ v21.1.Out.Got ∧ v21.1.Out.Got < ((Sl.len (.strs v21.1.Out.Said) : Nat) : Int))
          (.bind (z5 (⟨3, 1, 0, IntKind.i64.wrap (1 + (((v21.1.Out.Said.getD v21.1.Out.Got.toNat .empty).size : Nat) : Int)), [], []⟩ : Packet)) fun v22 =>
          (.bind (zd (⟨9, a1, 0, 0, 0, a2, true⟩ : Deed) v21.2) fun v23 =>
          (.ite (v23.1.Code == 0)
            (.leaf (v22.1.toList == (v21.1.Out.Said.getD v21.1.Out.Got.toNat .empty).toList))
            (.bind (zi v23.2) fun v24 =>
            (.bind (zg a1 v24.2) fun v25 =>
            (.guard ((0 : Int) ≤ a1 ∧ (a1 : Int) < 2)
            (.guard ((0 : Int) ≤ a1 ∧ (a1 : Int) < 2)
            (.leaf ((((((v24.1.Links.Got.get a1) == (v20.1.Links.Got.get a1)) && (v25.1.Out.Got == v21.1.Out.Got)) && (((v24.1.Queue.length : Nat) : Int) == ((v20.1.Queue.length : Nat) : Int))) && (((v25.1.Pending.length : Nat) : Int) == ((v21.1.Pending.length : Nat) : Int))) && (zty v24.1.Stake.Bank v20.1.Stake.Bank)))))))))))
          (.bind (z5 (⟨3, 1, 0, IntKind.i64.wrap (1 + (((⟨#[]⟩ : ByteArray).size : Nat) : Int)), [], []⟩ : Packet)) fun v26 =>
          (.bind (zd (⟨9, a1, 0, 0, 0, a2, true⟩ : Deed) v21.2) fun v27 =>
          (.ite (v27.1.Code == 0)
            (.leaf (v26.1.toList == (⟨#[]⟩ : ByteArray).toList))
            (.bind (zi v27.2) fun v28 =>
            (.bind (zg a1 v28.2) fun v29 =>
            (.guard ((0 : Int) ≤ a1 ∧ (a1 : Int) < 2)
            (.guard ((0 : Int) ≤ a1 ∧ (a1 : Int) < 2)
            (.leaf ((((((v28.1.Links.Got.get a1) == (v20.1.Links.Got.get a1)) && (v29.1.Out.Got == v21.1.Out.Got)) && (((v28.1.Queue.length : Nat) : Int) == ((v20.1.Queue.length : Nat) : Int))) && (((v29.1.Pending.length : Nat) : Int) == ((v21.1.Pending.length : Nat) : Int))) && (zty v28.1.Stake.Bank v20.1.Stake.Bank)))))))))))
        (.ite (decide ((v20.1.Links.Got.get a1) < (((v20.1.Links.Said.get a1).length : Nat) : Int)))
          (.guard ((0 : Int) ≤ (v20.1.Links.Got.get a1) ∧ (v20.1.Links.Got.get a1) < ((Sl.len (.strs (v20.1.Links.Said.get a1)) : Nat) : Int))
          (.bind (z5 (⟨3, 1, 0, IntKind.i64.wrap (1 + ((((v20.1.Links.Said.get a1).getD (v20.1.Links.Got.get a1).toNat .empty).size : Nat) : Int)), [], []⟩ : Packet)) fun v30 =>
          (.bind (zd (⟨9, a1, 0, 0, 0, a2, true⟩ : Deed) v21.2) fun v31 =>
          (.ite (v31.1.Code == 0)
            (.leaf (v30.1.toList == ((v20.1.Links.Said.get a1).getD (v20.1.Links.Got.get a1).toNat .empty).toList))
            (.bind (zi v31.2) fun v32 =>
            (.bind (zg a1 v32.2) fun v33 =>
            (.guard ((0 : Int) ≤ a1 ∧ (a1 : Int) < 2)
            (.guard ((0 : Int) ≤ a1 ∧ (a1 : Int) < 2)
            (.leaf ((((((v32.1.Links.Got.get a1) == (v20.1.Links.Got.get a1)) && (v33.1.Out.Got == v21.1.Out.Got)) && (((v32.1.Queue.length : Nat) : Int) == ((v20.1.Queue.length : Nat) : Int))) && (((v33.1.Pending.length : Nat) : Int) == ((v21.1.Pending.length : Nat) : Int))) && (zty v32.1.Stake.Bank v20.1.Stake.Bank)))))))))))
          (.bind (z5 (⟨3, 1, 0, IntKind.i64.wrap (1 + (((⟨#[]⟩ : ByteArray).size : Nat) : Int)), [], []⟩ : Packet)) fun v34 =>
          (.bind (zd (⟨9, a1, 0, 0, 0, a2, true⟩ : Deed) v21.2) fun v35 =>
          (.ite (v35.1.Code == 0)
            (.leaf (v34.1.toList == (⟨#[]⟩ : ByteArray).toList))
            (.bind (zi v35.2) fun v36 =>
            (.bind (zg a1 v36.2) fun v37 =>
            (.guard ((0 : Int) ≤ a1 ∧ (a1 : Int) < 2)
            (.guard ((0 : Int) ≤ a1 ∧ (a1 : Int) < 2)
            (.leaf ((((((v36.1.Links.Got.get a1) == (v20.1.Links.Got.get a1)) && (v37.1.Out.Got == v21.1.Out.Got)) && (((v36.1.Queue.length : Nat) : Int) == ((v20.1.Queue.length : Nat) : Int))) && (((v37.1.Pending.length : Nat) : Int) == ((v21.1.Pending.length : Nat) : Int))) && (zty v36.1.Stake.Bank v20.1.Stake.Bank))))))))))))))))))
def zki (a0 : (List Deed)) (a1 : Int) (a2 : Bool) : Option (Bool) := (zml a0 a1 a2).run
def za1j : LQ ((List Deed) × Int × Bool) := (LQ.seq (Par.q deedsP) (LQ.seq (Par.q intP) (Par.q boolP)))
def qr_top_TopForged : LQ (Bool) := (Par.q boolP)
def z7k : SpecT := zx 0 za1j 3 [] (fun s => zml s.1 s.2.1 s.2.2) default qr_top_TopForged 1 []
theorem z5j : zj Tryz.prog 7 (z7k).spec :=
  zf (A := zbdb) zbda Facts.mix Tryz.func7 (c := zbc7) (by kernel_rfl) (Lc := 0) trivial za1j 3 9 [] (fun s => zml s.1 s.2.1 s.2.2) default qr_top_TopForged 1 [] [] (by decide) (by kernel_rfl) (by rfl) (by decide) (by decide) (by rfl)
    (by rintro ⟨a0, a1, a2⟩; kernel_rfl)
noncomputable def zbdc : Code := Tryz.f12.body.getD .skip
def zbdd : List (List Nat) := [[0, 3], [3, 5, 6], [3, 5, 21], [4], [3, 5, 7, 8, 9, 10], [5, 7, 8, 9, 10, 11], [5, 7, 8, 9, 10, 11, 35], [4], [5, 7, 8, 9, 10, 11, 12, 13, 14], [4]]
noncomputable def zbde : EnvT := ⟨Tryz.prog, zw [(17, ztd), (19, zel), (23, zcu), (40, zku), (29, zcl), (41, zmg), (42, zmh)]⟩
theorem zbdf : (zbde).Ok := ze ⟨zvu, zgt, zd3, zpm, zcy, zrq, zrs, trivial⟩
def zbdg : Ann := ⟨[], [], [], zbdd, []⟩
def zkj (a0 : (List Deed)) (a1 : Deed) : Tr (Bool) :=
  (.bind (zmi a0) fun v1 =>
  (.ite (!v1.1)
    (.leaf false)
    (.bind (zi v1.2) fun v2 =>
    (.bind (zg 0 v2.2) fun v3 =>
    (.bind (zg 1 v3.2) fun v4 =>
    (.bind (zdy v4.2) fun v5 =>
    (.bind (zd a1 v5.2) fun v6 =>
    (.ite (v6.1.Code == 0)
      (.leaf true)
      (.bind (zi v6.2) fun v7 =>
      (.bind (zg 0 v7.2) fun v8 =>
      (.bind (zg 1 v8.2) fun v9 =>
      (.ite (v6.1.N == 0)
        (.bind (zdy v9.2) fun v10 =>
        (.guard ((((true : Bool) && (v10.1 == v5.1)) = true → ((z7 v2.1 v7.1).isSome = true) ∧ True))
        (.guard (((((true : Bool) && (v10.1 == v5.1)) && ((z7 v2.1 v7.1).getD default)) = true → ((z8 v3.1 v8.1).isSome = true) ∧ True))
        (.guard ((((((true : Bool) && (v10.1 == v5.1)) && ((z7 v2.1 v7.1).getD default)) && ((z8 v3.1 v8.1).getD default)) = true → ((z8 v4.1 v9.1).isSome = true) ∧ True))
        (.leaf (((((true : Bool) && (v10.1 == v5.1)) && ((z7 v2.1 v7.1).getD default)) && ((z8 v3.1 v8.1).getD default)) && ((z8 v4.1 v9.1).getD default)))))))
        (.ite ((false : Bool))
          .fail
          (.ite ((false : Bool))
            .fail
            (.guard (((false : Bool) = true → ((z7 v2.1 v7.1).isSome = true) ∧ True))
            (.guard ((((false : Bool) && ((z7 v2.1 v7.1).getD default)) = true → ((z8 v3.1 v8.1).isSome = true) ∧ True))
            (.guard (((((false : Bool) && ((z7 v2.1 v7.1).getD default)) && ((z8 v3.1 v8.1).getD default)) = true → ((z8 v4.1 v9.1).isSome = true) ∧ True))
            (.leaf ((((false : Bool) && ((z7 v2.1 v7.1).getD default)) && ((z8 v3.1 v8.1).getD default)) && ((z8 v4.1 v9.1).getD default))))))))))))))))))))
def zi0 (a0 : (List Deed)) (a1 : Deed) : Option (Bool) := (zkj a0 a1).run
def za1k : LQ ((List Deed) × Deed) := (LQ.seq (Par.q deedsP) (Par.q (Par.ofLP deedL)))
def qr_top_TopRefused : LQ (Bool) := (Par.q boolP)
def z5k : SpecT := zx 0 za1k 2 [] (fun s => zkj s.1 s.2) default qr_top_TopRefused 1 []
theorem z3x : zj Tryz.prog 12 (z5k).spec :=
  zf (A := zbdg) zbdf Facts.mix Tryz.func12 (c := zbdc) (by kernel_rfl) (Lc := 0) trivial za1k 2 11 [] (fun s => zkj s.1 s.2) default qr_top_TopRefused 1 [] [] (by decide) (by kernel_rfl) (by rfl) (by decide) (by decide) (by rfl)
    (by rintro ⟨a0, a1⟩; kernel_rfl)
noncomputable def zavh : Code := Tryz.f14.body.getD .skip
def za1l : List (List Nat) := [[0, 3], [0, 3, 5, 6], [0, 3, 5, 16], [4], [3, 5, 7], [3, 5, 7, 21], [3, 5, 7], [3, 5, 7, 28], [4], [3, 5, 8, 9], [4]]
noncomputable def za1m : EnvT := ⟨Tryz.prog, zw [(17, ztd), (29, zcl), (19, zff), (23, zfg), (41, zmg), (42, zmh)]⟩
theorem za1n : (za1m).Ok := ze ⟨zvu, zcy, zi6, zi7, zrq, zrs, trivial⟩
def zkk (x0 : Int) (x1 : Deed) (x2 : Wld) : Tr ((Int × Deed × Wld) ⊕ ((Bool) ⊕ (Deed × Wld))) :=
  (.ite (decide (x0 < 600))
    (.bind (zd (⟨0, 0, 0, 0, 0, false, false⟩ : Deed) x2) fun v2 =>
    (.ite (v2.1.Code != 3)
      (.leaf (.inr (.inl false)))
      (.leaf (.inl (IntKind.i64.wrap (x0 + 1), x1, v2.2)))))
    (.leaf (.inr (.inr (x1, x2)))))
def zf9 (x0 : Int) (x1 : Deed) (x2 : Wld) : Option ((Bool) ⊕ (Deed × Wld)) := zd5 (fun s : Int × Deed × Wld => (zkk s.1 s.2.1 s.2.2).run) (x0, x1, x2)
def za1o : Ann := ⟨[], [], [], za1l, []⟩
def za1p : EndD (Int × Deed × Wld) := ⟨(LQ.skip (LQ.const (.ptr 0 0)) (LQ.skip (LQ.const (.ptr 1 0)) (LQ.seq (Par.q intP) (LQ.seq (LP.q deedL) (LP.q wldL))))), ⟨[3, 5, 7], []⟩, [.cells 35 7, .cells 109 159]⟩
def zapz : EndD (Bool) := ⟨(Par.q boolP), ⟨[4], []⟩, []⟩
def zap0 : EndD (Deed × Wld) := ⟨(LQ.skip (LQ.const (.ptr 0 0)) (LQ.skip (LQ.const (.ptr 1 0)) (LQ.seq (LP.q deedL) (LP.q wldL)))), ⟨[3, 5], []⟩, [.cells 35 7, .cells 109 159]⟩
def zasg : St → Option LR := L2 50 6 0 za1p .ret zapz (.exit 0) zap0 (fun s => zkk s.1 s.2.1 s.2.2)
theorem za1q : zv (za1m).env 0 (sub zavh [0, 1, 0, 1, 1, 1]) zasg :=
  zlc (A := za1o) za1n Facts.mix trivial (k := zb1 (sub zavh [0, 1, 0, 1, 1, 1])) (by kernel_rfl) rfl rfl (by rintro ⟨x0, x1, x2⟩; kernel_rfl)
def zbdh : Ann := ⟨[([0, 1, 0, 1, 1, 1], zasg)], [], [], za1l, []⟩
def zqk (a0 : (List Deed)) (a1 : Deed) : Tr (Bool) :=
  (.bind (zmi a0) fun v1 =>
  (.ite (!v1.1)
    (.leaf false)
    (.two (zf9 (if 120 < ((a0.length : Nat) : Int) then 120 else ((a0.length : Nat) : Int)) a1 v1.2) (fun v3 =>
      (.leaf v3)) (fun v4 =>
      (.bind (z8o 109 v4.2 (zi v4.2)) fun v5 =>
      (.bind (z8o 109 v4.2 (zg 0 v4.2)) fun v6 =>
      (.guard ((zd v4.1 v4.2).isSome = true)
      (.guard ((((((zd v4.1 v4.2).getD default).1.Code == 6) && ((((zd v4.1 v4.2).getD default).1.N == 0) && true)) = true → ((z8o 109 ((zd v4.1 v4.2).getD default).2 (zi ((zd v4.1 v4.2).getD default).2)).isSome = true) ∧ True))
      (.guard ((((((zd v4.1 v4.2).getD default).1.Code == 6) && ((((zd v4.1 v4.2).getD default).1.N == 0) && true)) = true → ((z7 v5.1 ((z8o 109 ((zd v4.1 v4.2).getD default).2 (zi ((zd v4.1 v4.2).getD default).2)).getD default).1).isSome = true) ∧ True))
      (.guard (((((((zd v4.1 v4.2).getD default).1.Code == 6) && ((((zd v4.1 v4.2).getD default).1.N == 0) && true)) && ((z7 v5.1 ((z8o 109 ((zd v4.1 v4.2).getD default).2 (zi ((zd v4.1 v4.2).getD default).2)).getD default).1).getD default)) = true → ((z8o 109 ((zd v4.1 v4.2).getD default).2 (zg 0 ((zd v4.1 v4.2).getD default).2)).isSome = true) ∧ True))
      (.guard (((((((zd v4.1 v4.2).getD default).1.Code == 6) && ((((zd v4.1 v4.2).getD default).1.N == 0) && true)) && ((z7 v5.1 ((z8o 109 ((zd v4.1 v4.2).getD default).2 (zi ((zd v4.1 v4.2).getD default).2)).getD default).1).getD default)) = true → ((z8 v6.1 ((z8o 109 ((zd v4.1 v4.2).getD default).2 (zg 0 ((zd v4.1 v4.2).getD default).2)).getD default).1).isSome = true) ∧ True))
      (.leaf ((((((zd v4.1 v4.2).getD default).1.Code == 6) && ((((zd v4.1 v4.2).getD default).1.N == 0) && true)) && ((z7 v5.1 ((z8o 109 ((zd v4.1 v4.2).getD default).2 (zi ((zd v4.1 v4.2).getD default).2)).getD default).1).getD default)) && ((z8 v6.1 ((z8o 109 ((zd v4.1 v4.2).getD default).2 (zg 0 ((zd v4.1 v4.2).getD default).2)).getD default).1).getD default))))))))))))))
def zoc (a0 : (List Deed)) (a1 : Deed) : Option (Bool) := (zqk a0 a1).run
def za1r : LQ ((List Deed) × Deed) := (LQ.seq (Par.q deedsP) (Par.q (Par.ofLP deedL)))
def qr_top_TopEnds : LQ (Bool) := (Par.q boolP)
def zab1 : SpecT := zx 0 za1r 2 [] (fun s => zqk s.1 s.2) default qr_top_TopEnds 1 []
theorem z9f : zj Tryz.prog 14 (zab1).spec :=
  zf (A := zbdh) za1n Facts.mix Tryz.func14 (c := zavh) (by kernel_rfl) (Lc := 0) ⟨za1q, trivial⟩ za1r 2 6 [] (fun s => zqk s.1 s.2) default qr_top_TopEnds 1 [] [] (by decide) (by kernel_rfl) (by rfl) (by decide) (by decide) (by rfl)
    (by rintro ⟨a0, a1⟩; kernel_rfl)
end
end Go.Proofs.YtmakmlnfbdablaaGreat.Ab
