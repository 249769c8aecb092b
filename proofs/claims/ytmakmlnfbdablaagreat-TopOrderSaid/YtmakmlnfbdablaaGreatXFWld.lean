/-
  The functions, each by its tree.
-/
import Derived.Test.YtmakmlnfbdablaaGreatXAbFun
import Derived.Test.YtmakmlnfbdablaaGreatXAbRo
import Derived.Test.YtmakmlnfbdablaaGreatXAbStructs
import Derived.Test.YtmakmlnfbdablaaGreatXFBank
import Derived.Test.YtmakmlnfbdablaaGreatXFCodec
import Derived.Test.YtmakmlnfbdablaaGreatXFCons
import Derived.Test.YtmakmlnfbdablaaGreatXFLine
import Derived.Test.YtmakmlnfbdablaaGreatXFProv
import Derived.Test.YtmakmlnfbdablaaGreatXFStakeA
import Derived.Test.YtmakmlnfbdablaaGreatXFStakeB
import Derived.Test.YtmakmlnfbdablaaGreatXFacts
namespace Go.Proofs.YtmakmlnfbdablaaGreat.Ab
open Go Go.RowKit
set_option maxRecDepth 100000
set_option linter.unusedVariables false
set_option linter.unusedSimpArgs false
noncomputable section
noncomputable def zbat : Code := Tryz.f43.body.getD .skip
def zbau : List (List Nat) := [[], [0]]
noncomputable def zbav : EnvT := ⟨Tryz.prog, zw [(31, z0h)]⟩
theorem zbaw : (zbav).Ok := ze ⟨z7c, trivial⟩
def zbax : Ann := ⟨[], [], [], zbau, []⟩
def zvp  : Tr (Wld) :=
  (.bind (zrf) fun v1 =>
  (.leaf (⟨0, v1, (default : zdf), (default : zzn), 0⟩ : Wld)))
def zk8  : Option (Wld) := (zvp ).run
def zayw : LQ (Unit) := LQ.nil
def z41 : LQ (Wld) := (LQ.skip (LQ.const (.ptr 0 0)) (LP.q wldL))
def zrl : SpecT := zx 0 zayw 0 [] (fun s => zvp ) default z41 1 [.cells 109 159]
theorem zta : zj Tryz.prog 43 (zrl).spec :=
  zf (A := zbax) zbaw Facts.mix Tryz.func43 (c := zbat) (by kernel_rfl) (Lc := 0) trivial zayw 0 3 [] (fun s => zvp ) default z41 1 [.cells 109 159] [.pubB 0] (by decide) (by kernel_rfl) (by rfl) (by decide) (by decide) (by rfl)
    (by rintro _; kernel_rfl)
noncomputable def zbay : Code := Tryz.f40.body.getD .skip
def zbaz : List (List Nat) := [[0], [0, 4], [2], [2]]
noncomputable def zba0 : EnvT := ⟨Tryz.prog, zw []⟩
theorem zba1 : (zba0).Ok := ze trivial
def zba2 : Ann := ⟨[], [], [[1, 0, 1]], zbaz, []⟩
def zgs (a0 : Wld) : Tr (Int × Wld) :=
  (.leaf (a0.clock, a0))
def zdy (a0 : Wld) : Option (Int × Wld) := (zgs a0).run
def zayx : LQ (Wld) := (LQ.skip (LQ.const (.ptr 0 0)) (LP.q wldL))
def zpl : LQ (Int × Wld) := (LQ.seq (Par.q intP) (LP.q wldL))
def zku : SpecT := zx 1 zayx 1 [.cells 109 159] (fun s => zgs s) default zpl 1 [.cells 109 159]
theorem zpm : zj Tryz.prog 40 (zku).spec :=
  zf (A := zba2) zba1 Facts.mix Tryz.func40 (c := zbay) (by kernel_rfl) (Lc := 1) trivial zayx 1 3 [.cells 109 159] (fun s => zgs s) default zpl 1 [.cells 109 159] [.pubN 0] (by decide) (by kernel_rfl) (by rfl) (by decide) (by decide) (by rfl)
    (by rintro a0; kernel_rfl)
noncomputable def zba3 : Code := Tryz.f46.body.getD .skip
def zba4 : List (List Nat) := [[0], [2]]
noncomputable def zba5 : EnvT := ⟨Tryz.prog, zw []⟩
theorem zba6 : (zba5).Ok := ze trivial
def zba7 : Ann := ⟨[], [], [], zba4, []⟩
def zn5 (a0 : (List Power)) : Tr ((List Power)) :=
  (.guard ((0 + Sl.len (.powers a0)) * 16 ≤ 140737488355328)
  (.leaf a0))
def zcc (a0 : (List Power)) : Option ((List Power)) := (zn5 a0).run
def zayy : LQ ((List Power)) := (Par.q zt)
def zya : LQ ((List Power)) := (Par.q zt)
def zn6 : SpecT := zx 0 zayy 1 [] (fun s => zn5 s) default zya 1 []
theorem zrm : zj Tryz.prog 46 (zn6).spec :=
  zf (A := zba7) zba6 Facts.mix Tryz.func46 (c := zba3) (by kernel_rfl) (Lc := 0) trivial zayy 1 3 [] (fun s => zn5 s) default zya 1 [] [.pub 2] (by decide) (by kernel_rfl) (by rfl) (by decide) (by decide) (by rfl)
    (by rintro a0; kernel_rfl)
noncomputable def zba8 : Code := Tryz.f47.body.getD .skip
def zba9 : List (List Nat) := [[0], [2]]
noncomputable def zbba : EnvT := ⟨Tryz.prog, zw []⟩
theorem zbbb : (zbba).Ok := ze trivial
def zbbc : Ann := ⟨[], [], [], zba9, []⟩
def zl9 (a0 : (List Int)) : Tr ((List Int)) :=
  (.guard ((0 + Sl.len (.ints a0)) * 8 ≤ 140737488355328)
  (.leaf a0))
def zck (a0 : (List Int)) : Option ((List Int)) := (zl9 a0).run
def zayz : LQ ((List Int)) := (Par.q zhs)
def zwx : LQ ((List Int)) := (Par.q zhs)
def zma : SpecT := zx 0 zayz 1 [] (fun s => zl9 s) default zwx 1 []
theorem zpb : zj Tryz.prog 47 (zma).spec :=
  zf (A := zbbc) zbbb Facts.mix Tryz.func47 (c := zba8) (by kernel_rfl) (Lc := 0) trivial zayz 1 3 [] (fun s => zl9 s) default zwx 1 [] [.pub 2] (by decide) (by kernel_rfl) (by rfl) (by decide) (by decide) (by rfl)
    (by rintro a0; kernel_rfl)
noncomputable def zbbd : Code := Tryz.f49.body.getD .skip
def zbbe : List (List Nat) := [[1, 2], [1, 2], [2]]
noncomputable def zbbf : EnvT := ⟨Tryz.prog, zw [(46, zn6), (47, zma)]⟩
theorem zbbg : (zbbf).Ok := ze ⟨zrm, zpb, trivial⟩
def zbbh : Ann := ⟨[], [], [], zbbe, []⟩
def zn7 (a0 : Packet) : Tr (Packet) :=
  (.guard ((zcc a0.Set).isSome = true)
  (.guard ((zck a0.Done).isSome = true)
  (.leaf ({ (a0 : Packet) with Set := ((zcc a0.Set).getD default), Done := ((zck a0.Done).getD default) }))))
def zf4 (a0 : Packet) : Option (Packet) := (zn7 a0).run
def zay0 : LQ (Packet) := (Par.q (Par.ofLP zmz))
def zyb : LQ (Packet) := (Par.q (Par.ofLP zmz))
def ztr : SpecT := zx 0 zay0 1 [] (fun s => zn7 s) default zyb 1 []
theorem zyc : zj Tryz.prog 49 (ztr).spec :=
  zf (A := zbbh) zbbg Facts.mix Tryz.func49 (c := zbbd) (by kernel_rfl) (Lc := 0) trivial zay0 1 4 [] (fun s => zn7 s) default zyb 1 [] [.pubB 2] (by decide) (by kernel_rfl) (by rfl) (by decide) (by decide) (by rfl)
    (by rintro a0; kernel_rfl)
noncomputable def zbbi : Code := Tryz.f48.body.getD .skip
def zbbj : List (List Nat) := [[1, 2], [1, 2], [2]]
noncomputable def zbbk : EnvT := ⟨Tryz.prog, zw [(47, zma)]⟩
theorem zbbl : (zbbk).Ok := ze ⟨zpb, trivial⟩
def zbbm : Ann := ⟨[], [], [], zbbj, []⟩
def zmb (a0 : zbk) : Tr (zbk) :=
  (.guard ((0 + Sl.len (.strs a0.Said)) * 16 ≤ 140737488355328)
  (.guard ((zck a0.Due).isSome = true)
  (.leaf ({ (a0 : zbk) with Due := ((zck a0.Due).getD default) }))))
def zbz (a0 : zbk) : Option (zbk) := (zmb a0).run
def zay1 : LQ (zbk) := (Par.q (Par.ofLP lineL))
def zwy : LQ (zbk) := (Par.q (Par.ofLP lineL))
def zrn : SpecT := zx 0 zay1 1 [] (fun s => zmb s) default zwy 1 []
theorem zwz : zj Tryz.prog 48 (zrn).spec :=
  zf (A := zbbm) zbbl Facts.mix Tryz.func48 (c := zbbi) (by kernel_rfl) (Lc := 0) trivial zay1 1 5 [] (fun s => zmb s) default zwy 1 [] [.pubB 2] (by decide) (by kernel_rfl) (by rfl) (by decide) (by decide) (by rfl)
    (by rintro a0; kernel_rfl)
noncomputable def zamc : Code := Tryz.f19.body.getD .skip
def zau1 : List (List Nat) := [[0, 2], [0, 2, 10], [2], [2, 3], [2, 3], [2, 3], [2, 3, 26], [2, 3, 26, 27], [2, 3, 4, 26], [2, 3, 5, 26], [2, 3, 26], [2, 3, 26], [2, 3, 6], [2, 3, 6, 58, 59, 60], [2, 3, 6, 58, 59, 60, 61], [2, 3, 6, 8, 58, 59, 60], [2, 3, 6, 58, 59, 60], [2, 3, 6, 58, 59, 60], [2, 3], [2]]
noncomputable def zau2 : EnvT := ⟨Tryz.prog, zw [(46, zn6), (47, zma), (48, zrn), (49, ztr)]⟩
theorem zau3 : (zau2).Ok := ze ⟨zrm, zpb, zwz, zyc, trivial⟩
def zay (x0 : Int) (x1 : Wld) (x2 : za) (x3 : za) : Tr ((Int × Wld × za × za) ⊕ (Wld × za × za)) :=
  (.ite (decide (x0 < 2))
    (.guard ((0 : Int) ≤ x0 ∧ (x0 : Int) < 2)
    (.guard ((zcc (x3.Links.Told.get x0)).isSome = true)
    (.guard ((zck (x3.Links.Done.get x0)).isSome = true)
    (.guard ((zbz (zk x3.Links x0).Out).isSome = true)
    (.leaf (.inl (IntKind.i64.wrap (x0 + 1), x1, x2, { (x3 : za) with Links := { (x3.Links : Links) with Told := (x3.Links.Told.set x0 ((zcc (x3.Links.Told.get x0)).getD default)), Done := (x3.Links.Done.set x0 ((zck (x3.Links.Done.get x0)).getD default)), Said := (x3.Links.Said.set x0 ((zbz (zk x3.Links x0).Out).getD default).Said), Due := (x3.Links.Due.set x0 ((zbz (zk x3.Links x0).Out).getD default).Due), Got := (x3.Links.Got.set x0 ((zbz (zk x3.Links x0).Out).getD default).Got), Closed := (x3.Links.Closed.set x0 ((zbz (zk x3.Links x0).Out).getD default).Closed) } })))))))
    (.leaf (.inr (x1, x2, x3))))
def zer (x0 : Int) (x1 : Wld) (x2 : za) (x3 : za) : Option (Wld × za × za) := zd5 (fun s : Int × Wld × za × za => (zay s.1 s.2.1 s.2.2.1 s.2.2.2).run) (x0, x1, x2, x3)
def zay2 : Ann := ⟨[], [], [], zau1, []⟩
def zay3 : EndD (Int × Wld × za × za) := ⟨(LQ.map (LQ.skip (LQ.const (.ptr 1 0)) (LQ.skip (LQ.const (.ptr 2 0)) (LQ.seq (Par.q intP) (LQ.seq (LP.q wldL) (LQ.seq (LP.q providerL) (LQ.seq (Par.q intP) (LQ.seq (Par.q intP) (LQ.seq (LP.q bankL) (LQ.seq (LP.q validatorsL) (LQ.seq (LP.q (a4L (a6L (LP.one intP)))) (LQ.skip (LQ.const (.own 3)) (LQ.seq (Par.q intP) (LQ.seq (Par.q zt) (LQ.seq (LP.q linksL) (LQ.seq (LP.q meterL) (LQ.seq (Par.q zfn) (Par.q zol))))))))))))))))) (fun x : Int × Wld × za × Int × Int × Bank × Validators × (A4 (A6 Int)) × Int × (List Power) × Links × Meter × (List Asked) × (List Wait) => ((x.1, x.2.1, x.2.2.1, (⟨x.2.2.2.1, x.2.2.2.2.1, (⟨x.2.2.2.2.2.1, x.2.2.2.2.2.2.1, x.2.2.2.2.2.2.2.1, x.2.2.2.2.2.2.2.2.2.2.2.2.2, x.2.2.2.2.2.2.2.2.1⟩ : Stake), x.2.2.2.2.2.2.2.2.2.1, x.2.2.2.2.2.2.2.2.2.2.1, x.2.2.2.2.2.2.2.2.2.2.2.1, x.2.2.2.2.2.2.2.2.2.2.2.2.1⟩ : za)) : Int × Wld × za × za)) (fun y => (y.1, y.2.1, y.2.2.1, y.2.2.2.Height, y.2.2.2.Time, y.2.2.2.Stake.Bank, y.2.2.2.Stake.Validators, y.2.2.2.Stake.Shares, y.2.2.2.Stake.Next, y.2.2.2.Set, y.2.2.2.Links, y.2.2.2.Meter, y.2.2.2.Queue, y.2.2.2.Stake.Waits)) (fun _ => rfl)), ⟨[2, 3, 26], [.nilcell 3 63 98 (.waits [])]⟩, [.cells 109 159, .cells 61 97, .cells 61 97, .rows 98]⟩
def zao5 : EndD (Wld × za × za) := ⟨(LQ.map (LQ.skip (LQ.const (.ptr 1 0)) (LQ.skip (LQ.const (.ptr 2 0)) (LQ.seq (LP.q wldL) (LQ.seq (LP.q providerL) (LQ.seq (Par.q intP) (LQ.seq (Par.q intP) (LQ.seq (LP.q bankL) (LQ.seq (LP.q validatorsL) (LQ.seq (LP.q (a4L (a6L (LP.one intP)))) (LQ.skip (LQ.const (.own 3)) (LQ.seq (Par.q intP) (LQ.seq (Par.q zt) (LQ.seq (LP.q linksL) (LQ.seq (LP.q meterL) (LQ.seq (Par.q zfn) (Par.q zol)))))))))))))))) (fun x : Wld × za × Int × Int × Bank × Validators × (A4 (A6 Int)) × Int × (List Power) × Links × Meter × (List Asked) × (List Wait) => ((x.1, x.2.1, (⟨x.2.2.1, x.2.2.2.1, (⟨x.2.2.2.2.1, x.2.2.2.2.2.1, x.2.2.2.2.2.2.1, x.2.2.2.2.2.2.2.2.2.2.2.2, x.2.2.2.2.2.2.2.1⟩ : Stake), x.2.2.2.2.2.2.2.2.1, x.2.2.2.2.2.2.2.2.2.1, x.2.2.2.2.2.2.2.2.2.2.1, x.2.2.2.2.2.2.2.2.2.2.2.1⟩ : za)) : Wld × za × za)) (fun y => (y.1, y.2.1, y.2.2.Height, y.2.2.Time, y.2.2.Stake.Bank, y.2.2.Stake.Validators, y.2.2.Stake.Shares, y.2.2.Stake.Next, y.2.2.Set, y.2.2.Links, y.2.2.Meter, y.2.2.Queue, y.2.2.Stake.Waits)) (fun _ => rfl)), ⟨[2, 3], [.nilcell 3 63 98 (.waits [])]⟩, [.cells 109 159, .cells 61 97, .cells 61 97, .rows 98]⟩
def zar0 : St → Option LR := L1 77 10 1 zay3 (.exit 0) zao5 (fun s => zay s.1 s.2.1 s.2.2.1 s.2.2.2)
theorem zay4 : zv (zau2).env 1 (sub zamc [0, 1, 0, 1, 1, 1, 1, 1]) zar0 :=
  zji (A := zay2) zau3 Facts.mix trivial (k := zb1 (sub zamc [0, 1, 0, 1, 1, 1, 1, 1])) (by kernel_rfl) rfl (by rintro ⟨x0, x1, x2, x3⟩; kernel_rfl)
def zbv (x0 : (List Asked)) (x1 : Int) (x2 : Int) (x3 : Wld) (x4 : za) (x5 : za) (x6 : (List Asked)) : Tr (((List Asked) × Int × Int × Wld × za × za × (List Asked)) ⊕ (Wld × za × za × (List Asked))) :=
  (.ite (decide (x2 < x1))
    (.guard ((0 : Int) ≤ x2 ∧ x2 < ((Sl.len (.asked x0) : Nat) : Int))
    (.guard ((zf4 (x0.getD x2.toNat default).P).isSome = true)
    (.guard ((Sl.len (.asked x6) + Sl.len (.asked [(⟨(x0.getD x2.toNat default).C, ((zf4 (x0.getD x2.toNat default).P).getD default)⟩ : Asked)])) * 88 ≤ 140737488355328)
    (.leaf (.inl (x0, x1, IntKind.i64.wrap (x2 + 1), x3, x4, x5, x6 ++ [(⟨(x0.getD x2.toNat default).C, ((zf4 (x0.getD x2.toNat default).P).getD default)⟩ : Asked)]))))))
    (.leaf (.inr (x3, x4, x5, x6))))
def zes (x0 : (List Asked)) (x1 : Int) (x2 : Int) (x3 : Wld) (x4 : za) (x5 : za) (x6 : (List Asked)) : Option (Wld × za × za × (List Asked)) := zd5 (fun s : (List Asked) × Int × Int × Wld × za × za × (List Asked) => (zbv s.1 s.2.1 s.2.2.1 s.2.2.2.1 s.2.2.2.2.1 s.2.2.2.2.2.1 s.2.2.2.2.2.2).run) (x0, x1, x2, x3, x4, x5, x6)
def zay5 : Ann := ⟨[], [], [], zau1, []⟩
def zay6 : EndD ((List Asked) × Int × Int × Wld × za × za × (List Asked)) := ⟨(LQ.map (LQ.skip (LQ.const (.ptr 1 0)) (LQ.skip (LQ.const (.ptr 2 0)) (LQ.skip (LQ.const (.own 3)) (LQ.seq (Par.q zfn) (LQ.seq (Par.q intP) (LQ.seq (Par.q intP) (LQ.seq (LP.q wldL) (LQ.seq (LP.q providerL) (LQ.seq (Par.q intP) (LQ.seq (Par.q intP) (LQ.seq (LP.q bankL) (LQ.seq (LP.q validatorsL) (LQ.seq (LP.q (a4L (a6L (LP.one intP)))) (LQ.skip (LQ.const (.own 4)) (LQ.seq (Par.q intP) (LQ.seq (Par.q zt) (LQ.seq (LP.q linksL) (LQ.seq (LP.q meterL) (LQ.seq (Par.q zfn) (LQ.seq (Par.q zfn) (Par.q zol))))))))))))))))))))) (fun x : (List Asked) × Int × Int × Wld × za × Int × Int × Bank × Validators × (A4 (A6 Int)) × Int × (List Power) × Links × Meter × (List Asked) × (List Asked) × (List Wait) => ((x.1, x.2.1, x.2.2.1, x.2.2.2.1, x.2.2.2.2.1, (⟨x.2.2.2.2.2.1, x.2.2.2.2.2.2.1, (⟨x.2.2.2.2.2.2.2.1, x.2.2.2.2.2.2.2.2.1, x.2.2.2.2.2.2.2.2.2.1, x.2.2.2.2.2.2.2.2.2.2.2.2.2.2.2.2, x.2.2.2.2.2.2.2.2.2.2.1⟩ : Stake), x.2.2.2.2.2.2.2.2.2.2.2.1, x.2.2.2.2.2.2.2.2.2.2.2.2.1, x.2.2.2.2.2.2.2.2.2.2.2.2.2.1, x.2.2.2.2.2.2.2.2.2.2.2.2.2.2.1⟩ : za), x.2.2.2.2.2.2.2.2.2.2.2.2.2.2.2.1) : (List Asked) × Int × Int × Wld × za × za × (List Asked))) (fun y => (y.1, y.2.1, y.2.2.1, y.2.2.2.1, y.2.2.2.2.1, y.2.2.2.2.2.1.Height, y.2.2.2.2.2.1.Time, y.2.2.2.2.2.1.Stake.Bank, y.2.2.2.2.2.1.Stake.Validators, y.2.2.2.2.2.1.Stake.Shares, y.2.2.2.2.2.1.Stake.Next, y.2.2.2.2.2.1.Set, y.2.2.2.2.2.1.Links, y.2.2.2.2.2.1.Meter, y.2.2.2.2.2.1.Queue, y.2.2.2.2.2.2, y.2.2.2.2.2.1.Stake.Waits)) (fun _ => rfl)), ⟨[2, 3, 6, 58, 59, 60], [.nilcell 3 63 98 (.waits []), .nilown 6 101 (.asked []), .pub 58, .nilsl 58 (.asked [])]⟩, [.cells 109 159, .cells 61 97, .cells 61 97, .rows 101, .rows 98]⟩
def zao6 : EndD (Wld × za × za × (List Asked)) := ⟨(LQ.map (LQ.skip (LQ.const (.ptr 1 0)) (LQ.skip (LQ.const (.ptr 2 0)) (LQ.skip (LQ.const (.own 3)) (LQ.seq (LP.q wldL) (LQ.seq (LP.q providerL) (LQ.seq (Par.q intP) (LQ.seq (Par.q intP) (LQ.seq (LP.q bankL) (LQ.seq (LP.q validatorsL) (LQ.seq (LP.q (a4L (a6L (LP.one intP)))) (LQ.skip (LQ.const (.own 4)) (LQ.seq (Par.q intP) (LQ.seq (Par.q zt) (LQ.seq (LP.q linksL) (LQ.seq (LP.q meterL) (LQ.seq (Par.q zfn) (LQ.seq (Par.q zfn) (Par.q zol)))))))))))))))))) (fun x : Wld × za × Int × Int × Bank × Validators × (A4 (A6 Int)) × Int × (List Power) × Links × Meter × (List Asked) × (List Asked) × (List Wait) => ((x.1, x.2.1, (⟨x.2.2.1, x.2.2.2.1, (⟨x.2.2.2.2.1, x.2.2.2.2.2.1, x.2.2.2.2.2.2.1, x.2.2.2.2.2.2.2.2.2.2.2.2.2, x.2.2.2.2.2.2.2.1⟩ : Stake), x.2.2.2.2.2.2.2.2.1, x.2.2.2.2.2.2.2.2.2.1, x.2.2.2.2.2.2.2.2.2.2.1, x.2.2.2.2.2.2.2.2.2.2.2.1⟩ : za), x.2.2.2.2.2.2.2.2.2.2.2.2.1) : Wld × za × za × (List Asked))) (fun y => (y.1, y.2.1, y.2.2.1.Height, y.2.2.1.Time, y.2.2.1.Stake.Bank, y.2.2.1.Stake.Validators, y.2.2.1.Stake.Shares, y.2.2.1.Stake.Next, y.2.2.1.Set, y.2.2.1.Links, y.2.2.1.Meter, y.2.2.1.Queue, y.2.2.2, y.2.2.1.Stake.Waits)) (fun _ => rfl)), ⟨[2, 3, 6], [.nilcell 3 63 98 (.waits []), .nilown 6 101 (.asked [])]⟩, [.cells 109 159, .cells 61 97, .cells 61 97, .rows 101, .rows 98]⟩
def zar1 : St → Option LR := L1 77 10 1 zay6 (.exit 2) zao6 (fun s => zbv s.1 s.2.1 s.2.2.1 s.2.2.2.1 s.2.2.2.2.1 s.2.2.2.2.2.1 s.2.2.2.2.2.2)
theorem zay7 : zv (zau2).env 1 (sub zamc [0, 1, 0, 1, 1, 1, 1, 1, 1, 1]) zar1 :=
  zji (A := zay5) zau3 Facts.mix trivial (k := zb1 (sub zamc [0, 1, 0, 1, 1, 1, 1, 1, 1, 1])) (by kernel_rfl) rfl (by rintro ⟨x0, x1, x2, x3, x4, x5, x6⟩; kernel_rfl)
def zbbn : Ann := ⟨[([0, 1, 0, 1, 1, 1, 1, 1], zar0), ([0, 1, 0, 1, 1, 1, 1, 1, 1, 1], zar1)], [], [[1, 0, 1]], zau1, []⟩
def zek (a0 : Wld) : Tr (za × Wld) :=
  (.guard ((0 + Sl.len (.waits a0.p.Stake.Waits)) * 64 ≤ 140737488355328)
  (.bind (zcc a0.p.Set) fun v1 =>
  (.bind (zer 0 a0 (default : za) ({ (a0.p : za) with Set := v1 })) fun v2 =>
  (.bind (zes v2.2.2.Queue ((v2.2.2.Queue.length : Nat) : Int) 0 v2.1 v2.2.1 v2.2.2 []) fun v3 =>
  (.leaf ({ (v3.2.2.1 : za) with Queue := v3.2.2.2 }, v3.1))))))
def zi (a0 : Wld) : Option (za × Wld) := (zek a0).run
def zay8 : LQ (Wld) := (LQ.skip (LQ.const (.ptr 0 0)) (LP.q wldL))
def zmc : LQ (za × Wld) := (LQ.seq (Par.q (Par.ofLP providerL)) (LP.q wldL))
def zel : SpecT := zx 1 zay8 1 [.cells 109 159] (fun s => zek s) default zmc 1 [.cells 109 159]
theorem zgt : zj Tryz.prog 19 (zel).spec :=
  zf (A := zbbn) zau3 Facts.mix Tryz.func19 (c := zamc) (by kernel_rfl) (Lc := 1) ⟨zay4, zay7, trivial⟩ zay8 1 10 [.cells 109 159] (fun s => zek s) default zmc 1 [.cells 109 159] [.pubN 0, .pubB 2] (by decide) (by kernel_rfl) (by rfl) (by decide) (by decide) (by rfl)
    (by rintro a0; kernel_rfl)
noncomputable def zau4 : Code := Tryz.f23.body.getD .skip
def zay9 : List (List Nat) := [[0, 1, 4], [0, 1, 4, 18], [4], [4, 5], [4, 5], [4, 5, 6], [4, 5, 6, 39, 40, 41], [4, 5, 6, 39, 40, 41, 42], [4, 5, 6, 8, 39, 40, 41], [4, 5, 6, 39, 40, 41], [4, 5, 6, 39, 40, 41], [4, 5], [4]]
noncomputable def zaza : EnvT := ⟨Tryz.prog, zw [(46, zn6), (48, zrn), (49, ztr)]⟩
theorem zazb : (zaza).Ok := ze ⟨zrm, zwz, zyc, trivial⟩
def zbw (x0 : (List Packet)) (x1 : Int) (x2 : Int) (x3 : Wld) (x4 : zb) (x5 : zb) (x6 : (List Packet)) : Tr (((List Packet) × Int × Int × Wld × zb × zb × (List Packet)) ⊕ (Wld × zb × zb × (List Packet))) :=
  (.ite (decide (x2 < x1))
    (.guard ((0 : Int) ≤ x2 ∧ x2 < ((Sl.len (.packets x0) : Nat) : Int))
    (.bind (zf4 (x0.getD x2.toNat default)) fun v1 =>
    (.guard ((Sl.len (.packets x6) + Sl.len (.packets [v1])) * 80 ≤ 140737488355328)
    (.leaf (.inl (x0, x1, IntKind.i64.wrap (x2 + 1), x3, x4, x5, x6 ++ [v1]))))))
    (.leaf (.inr (x3, x4, x5, x6))))
def zet (x0 : (List Packet)) (x1 : Int) (x2 : Int) (x3 : Wld) (x4 : zb) (x5 : zb) (x6 : (List Packet)) : Option (Wld × zb × zb × (List Packet)) := zd5 (fun s : (List Packet) × Int × Int × Wld × zb × zb × (List Packet) => (zbw s.1 s.2.1 s.2.2.1 s.2.2.2.1 s.2.2.2.2.1 s.2.2.2.2.2.1 s.2.2.2.2.2.2).run) (x0, x1, x2, x3, x4, x5, x6)
def zazc : Ann := ⟨[], [], [], zay9, []⟩
def zazd : EndD ((List Packet) × Int × Int × Wld × zb × zb × (List Packet)) := ⟨(LQ.map (LQ.skip (LQ.const (.ptr 1 0)) (LQ.skip (LQ.const (.ptr 2 0)) (LQ.skip (LQ.const (.own 3)) (LQ.seq (Par.q zej) (LQ.seq (Par.q intP) (LQ.seq (Par.q intP) (LQ.seq (LP.q wldL) (LQ.seq (LP.q z9) (LQ.seq (Par.q boolP) (LQ.seq (Par.q boolP) (LQ.seq (Par.q intP) (LQ.seq (Par.q intP) (LQ.seq (Par.q intP) (LQ.seq (Par.q zt) (LQ.seq (Par.q zej) (LQ.skip (LQ.const (.own 4)) (LQ.seq (LP.q (a6L (LP.one boolP))) (LQ.seq (LP.q lineL) (LQ.seq (LP.q zaay) (LQ.seq (Par.q zej) (Par.q zzw))))))))))))))))))))) (fun x : (List Packet) × Int × Int × Wld × zb × Bool × Bool × Int × Int × Int × (List Power) × (List Packet) × (A6 Bool) × zbk × z9i × (List Packet) × (List Ripe) => ((x.1, x.2.1, x.2.2.1, x.2.2.2.1, x.2.2.2.2.1, (⟨x.2.2.2.2.2.1, x.2.2.2.2.2.2.1, x.2.2.2.2.2.2.2.1, x.2.2.2.2.2.2.2.2.1, x.2.2.2.2.2.2.2.2.2.1, x.2.2.2.2.2.2.2.2.2.2.1, x.2.2.2.2.2.2.2.2.2.2.2.1, x.2.2.2.2.2.2.2.2.2.2.2.2.2.2.2.2, x.2.2.2.2.2.2.2.2.2.2.2.2.1, x.2.2.2.2.2.2.2.2.2.2.2.2.2.1, x.2.2.2.2.2.2.2.2.2.2.2.2.2.2.1⟩ : zb), x.2.2.2.2.2.2.2.2.2.2.2.2.2.2.2.1) : (List Packet) × Int × Int × Wld × zb × zb × (List Packet))) (fun y => (y.1, y.2.1, y.2.2.1, y.2.2.2.1, y.2.2.2.2.1, y.2.2.2.2.2.1.On, y.2.2.2.2.2.1.Gone, y.2.2.2.2.2.1.Height, y.2.2.2.2.2.1.Time, y.2.2.2.2.2.1.Id, y.2.2.2.2.2.1.Set, y.2.2.2.2.2.1.Pending, y.2.2.2.2.2.1.Flags, y.2.2.2.2.2.1.Out, y.2.2.2.2.2.1.Seen, y.2.2.2.2.2.2, y.2.2.2.2.2.1.Ripes)) (fun _ => rfl)), ⟨[4, 5, 6, 39, 40, 41], [.nilcell 5 7 103 (.ripes []), .nilown 6 79 (.packets []), .pub 39, .nilsl 39 (.packets [])]⟩, [.cells 109 159, .cells 71 22, .cells 71 22, .rows 79, .rows 103]⟩
def zao7 : EndD (Wld × zb × zb × (List Packet)) := ⟨(LQ.map (LQ.skip (LQ.const (.ptr 1 0)) (LQ.skip (LQ.const (.ptr 2 0)) (LQ.skip (LQ.const (.own 3)) (LQ.seq (LP.q wldL) (LQ.seq (LP.q z9) (LQ.seq (Par.q boolP) (LQ.seq (Par.q boolP) (LQ.seq (Par.q intP) (LQ.seq (Par.q intP) (LQ.seq (Par.q intP) (LQ.seq (Par.q zt) (LQ.seq (Par.q zej) (LQ.skip (LQ.const (.own 4)) (LQ.seq (LP.q (a6L (LP.one boolP))) (LQ.seq (LP.q lineL) (LQ.seq (LP.q zaay) (LQ.seq (Par.q zej) (Par.q zzw)))))))))))))))))) (fun x : Wld × zb × Bool × Bool × Int × Int × Int × (List Power) × (List Packet) × (A6 Bool) × zbk × z9i × (List Packet) × (List Ripe) => ((x.1, x.2.1, (⟨x.2.2.1, x.2.2.2.1, x.2.2.2.2.1, x.2.2.2.2.2.1, x.2.2.2.2.2.2.1, x.2.2.2.2.2.2.2.1, x.2.2.2.2.2.2.2.2.1, x.2.2.2.2.2.2.2.2.2.2.2.2.2, x.2.2.2.2.2.2.2.2.2.1, x.2.2.2.2.2.2.2.2.2.2.1, x.2.2.2.2.2.2.2.2.2.2.2.1⟩ : zb), x.2.2.2.2.2.2.2.2.2.2.2.2.1) : Wld × zb × zb × (List Packet))) (fun y => (y.1, y.2.1, y.2.2.1.On, y.2.2.1.Gone, y.2.2.1.Height, y.2.2.1.Time, y.2.2.1.Id, y.2.2.1.Set, y.2.2.1.Pending, y.2.2.1.Flags, y.2.2.1.Out, y.2.2.1.Seen, y.2.2.2, y.2.2.1.Ripes)) (fun _ => rfl)), ⟨[4, 5, 6], [.nilcell 5 7 103 (.ripes []), .nilown 6 79 (.packets [])]⟩, [.cells 109 159, .cells 71 22, .cells 71 22, .rows 79, .rows 103]⟩
def zar2 : St → Option LR := L1 54 10 1 zazd (.exit 0) zao7 (fun s => zbw s.1 s.2.1 s.2.2.1 s.2.2.2.1 s.2.2.2.2.1 s.2.2.2.2.2.1 s.2.2.2.2.2.2)
theorem zaze : zv (zaza).env 1 (sub zau4 [0, 1, 0, 1, 1, 1, 1, 1]) zar2 :=
  zji (A := zazc) zazb Facts.mix trivial (k := zb1 (sub zau4 [0, 1, 0, 1, 1, 1, 1, 1])) (by kernel_rfl) rfl (by rintro ⟨x0, x1, x2, x3, x4, x5, x6⟩; kernel_rfl)
def zbbo : Ann := ⟨[([0, 1, 0, 1, 1, 1, 1, 1], zar2)], [], [], zay9, []⟩
def zem (a0 : Int) (a1 : Wld) : Tr (zb × Wld) :=
  (.ite ((false || (decide (a0 < 0))) || (decide (a0 ≥ 2)))
    (.leaf ((default : zb), a1))
    (.guard ((0 : Int) ≤ a0 ∧ (a0 : Int) < 2)
    (.guard ((zcc (a1.consumers.Set.get a0)).isSome = true)
    (.guard ((zbz (zc a1.consumers a0).Out).isSome = true)
    (.guard ((0 + Sl.len (.ripes (a1.consumers.Ripes.get a0))) * 16 ≤ 140737488355328)
    (.bind (zet (a1.consumers.Pending.get a0) (((a1.consumers.Pending.get a0).length : Nat) : Int) 0 a1 (default : zb) ({ ((zc a1.consumers a0) : zb) with Set := ((zcc (a1.consumers.Set.get a0)).getD default), Out := ((zbz (zc a1.consumers a0).Out).getD default) }) []) fun v2 =>
    (.leaf ({ (v2.2.2.1 : zb) with Pending := v2.2.2.2 }, v2.1))))))))
def zg (a0 : Int) (a1 : Wld) : Option (zb × Wld) := (zem a0 a1).run
def zazf : LQ (Int × Wld) := (LQ.skip (LQ.const (.ptr 0 0)) (LQ.seq (Par.q intP) (LP.q wldL)))
def zmd : LQ (zb × Wld) := (LQ.seq (Par.q (Par.ofLP z9)) (LP.q wldL))
def zcu : SpecT := zx 1 zazf 2 [.cells 109 159] (fun s => zem s.1 s.2) default zmd 1 [.cells 109 159]
theorem zd3 : zj Tryz.prog 23 (zcu).spec :=
  zf (A := zbbo) zazb Facts.mix Tryz.func23 (c := zau4) (by kernel_rfl) (Lc := 1) ⟨zaze, trivial⟩ zazf 2 10 [.cells 109 159] (fun s => zem s.1 s.2) default zmd 1 [.cells 109 159] [.pubN 0, .pubB 4] (by decide) (by kernel_rfl) (by rfl) (by decide) (by decide) (by rfl)
    (by rintro ⟨a0, a1⟩; kernel_rfl)
noncomputable def zbbp : Code := Tryz.f105.body.getD .skip
def zbbq : List (List Nat) := [[1, 2], [1, 2, 5], [1, 2, 5, 11], [1, 5], [5, 19], [4], [5], [4]]
noncomputable def zbbr : EnvT := ⟨Tryz.prog, zw [(28, zjt)]⟩
theorem zbbs : (zbbr).Ok := ze ⟨zlq, trivial⟩
def zbbt : Ann := ⟨[], [], [], zbbq, []⟩
def ztb (a0 : zbk) (a1 : Bool) : Tr (ByteArray) :=
  (.ite (decide (a0.Got < ((a0.Said.length : Nat) : Int)))
    (.guard ((0 : Int) ≤ a0.Got ∧ a0.Got < ((Sl.len (.strs a0.Said) : Nat) : Int))
    (.ite (!a1)
      (.leaf (a0.Said.getD a0.Got.toNat .empty))
      (.bind (z5 (⟨3, 1, 0, IntKind.i64.wrap (1 + (((a0.Said.getD a0.Got.toNat .empty).size : Nat) : Int)), [], []⟩ : Packet)) fun v1 =>
      (.leaf v1.1))))
    (.ite (!a1)
      (.leaf (⟨#[]⟩ : ByteArray))
      (.bind (z5 (⟨3, 1, 0, IntKind.i64.wrap (1 + (((⟨#[]⟩ : ByteArray).size : Nat) : Int)), [], []⟩ : Packet)) fun v2 =>
      (.leaf v2.1))))
def zqi (a0 : zbk) (a1 : Bool) : Option (ByteArray) := (ztb a0 a1).run
def zazg : LQ (zbk × Bool) := (LQ.seq (Par.q (Par.ofLP lineL)) (Par.q boolP))
def z24 : LQ (ByteArray) := (Par.q strP)
def z43 : SpecT := zx 0 zazg 2 [] (fun s => ztb s.1 s.2) default z24 1 []
theorem zabz : zj Tryz.prog 105 (z43).spec :=
  zf (A := zbbt) zbbs Facts.mix Tryz.func105 (c := zbbp) (by kernel_rfl) (Lc := 0) trivial zazg 2 3 [] (fun s => ztb s.1 s.2) default z24 1 [] [] (by decide) (by kernel_rfl) (by rfl) (by decide) (by decide) (by rfl)
    (by rintro ⟨a0, a1⟩; kernel_rfl)
noncomputable def zau5 : Code := Tryz.f64.body.getD .skip
def zazh : List (List Nat) := [[0, 2], [0, 2, 3, 4, 5], [0, 2, 3, 4, 5, 21], [2], [0, 2, 3, 4], [0, 2, 3, 4, 28], [0, 2, 3, 4, 28, 29], [0, 2, 3, 4, 6, 28], [0, 2, 3, 4, 28], [0, 2, 3, 4, 28], [2]]
noncomputable def zazi : EnvT := ⟨Tryz.prog, zw [(81, z0k)]⟩
theorem zazj : (zazi).Ok := ze ⟨z7f, trivial⟩
def zbi (x0 : (List Int)) (x1 : Int) (x2 : Wld) (x3 : Reply) (x4 : za) : Tr (((List Int) × Int × Wld × Reply × za) ⊕ ((List Int) × Wld × Reply)) :=
  (.ite (decide (x1 < 2))
    (.guard ((0 : Int) ≤ x1 ∧ (x1 : Int) < 2)
    (.guard ((0 : Int) ≤ x1 ∧ (x1 : Int) < 2)
    (.guard ((0 : Int) ≤ x1 ∧ (x1 : Int) < 2)
    (.guard ((0 : Int) ≤ 0 ∧ (0 : Int) < 2)
    (.leaf (.inl (x0, IntKind.i64.wrap (x1 + 1), { (x2 : Wld) with heads := { (x2.heads : zzn) with PHeight := (x2.heads.PHeight.set x1 x4.Height), PTime := (x2.heads.PTime.set x1 x4.Time), PSaid := (x2.heads.PSaid.set x1 (((x4.Links.Said.get x1).length : Nat) : Int)), PGot := (x2.heads.PGot.set x1 (x2.consumers.Got.get x1)) } }, x3, x4)))))))
    (.leaf (.inr (x0, x2, x3))))
def zfe (x0 : (List Int)) (x1 : Int) (x2 : Wld) (x3 : Reply) (x4 : za) : Option ((List Int) × Wld × Reply) := zd5 (fun s : (List Int) × Int × Wld × Reply × za => (zbi s.1 s.2.1 s.2.2.1 s.2.2.2.1 s.2.2.2.2).run) (x0, x1, x2, x3, x4)
def zazk : Ann := ⟨[], [], [], zazh, []⟩
def zazl : EndD ((List Int) × Int × Wld × Reply × za) := ⟨(LQ.skip (LQ.const (.ptr 0 0)) (LQ.skip (LQ.const (.ptr 1 0)) (LQ.skip (LQ.const (.ptr 2 0)) (LQ.seq (Par.q zhs) (LQ.seq (Par.q intP) (LQ.seq (LP.q wldL) (LQ.seq (LP.q zqu) (LP.q providerL)))))))), ⟨[0, 2, 3, 4, 28], [.pub 4, .nilsl 4 (.ints [])]⟩, [.cells 109 159, .cells 29 2, .cells 61 97]⟩
def zao8 : EndD ((List Int) × Wld × Reply) := ⟨(LQ.skip (LQ.const (.ptr 1 0)) (LQ.seq (Par.q zhs) (LQ.seq (LP.q wldL) (LP.q zqu)))), ⟨[2, 4], [.pub 4, .nilsl 4 (.ints [])]⟩, [.cells 109 159, .cells 29 2]⟩
def zar3 : St → Option LR := L1 61 5 1 zazl (.exit 0) zao8 (fun s => zbi s.1 s.2.1 s.2.2.1 s.2.2.2.1 s.2.2.2.2)
theorem zazm : zv (zazi).env 1 (sub zau5 [0, 1, 0, 1, 1, 1, 1]) zar3 :=
  zji (A := zazk) zazj Facts.mix trivial (k := zb1 (sub zau5 [0, 1, 0, 1, 1, 1, 1])) (by kernel_rfl) rfl (by rintro ⟨x0, x1, x2, x3, x4⟩; kernel_rfl)
def zbbu : Ann := ⟨[([0, 1, 0, 1, 1, 1, 1], zar3)], [], [], zazh, []⟩
def ze5 (a0 : Wld) : Tr (Reply × Wld) :=
  (.guard ((zdl a0.p a0.clock).isSome = true)
  (.ite (((zdl a0.p a0.clock).getD default).2.2 != 0)
    (.leaf ((⟨((zdl a0.p a0.clock).getD default).2.2, 0⟩ : Reply), a0))
    (.bind (zfe ((zdl a0.p a0.clock).getD default).2.1 0 ({ (a0 : Wld) with p := ((zdl a0.p a0.clock).getD default).1 }) (⟨0, 0⟩ : Reply) ((zdl a0.p a0.clock).getD default).1) fun v1 =>
    (.leaf ((⟨0, ((v1.1.length : Nat) : Int)⟩ : Reply), v1.2.1)))))
def zhb (a0 : Wld) : Option (Reply × Wld) := (ze5 a0).run
def zazn : LQ (Wld) := (LQ.skip (LQ.const (.ptr 0 0)) (LP.q wldL))
def zmw : LQ (Reply × Wld) := (LQ.seq (Par.q (Par.ofLP zqu)) (LP.q wldL))
def zou : SpecT := zx 1 zazn 1 [.cells 109 159] (fun s => ze5 s) default zmw 1 [.cells 109 159]
theorem zw4 : zj Tryz.prog 64 (zou).spec :=
  zf (A := zbbu) zazj Facts.mix Tryz.func64 (c := zau5) (by kernel_rfl) (Lc := 1) ⟨zazm, trivial⟩ zazn 1 5 [.cells 109 159] (fun s => ze5 s) default zmw 1 [.cells 109 159] [.pubN 0] (by decide) (by kernel_rfl) (by rfl) (by decide) (by decide) (by rfl)
    (by rintro a0; kernel_rfl)
noncomputable def zbbv : Code := Tryz.f85.body.getD .skip
def zbbw : List (List Nat) := [[0, 3, 4], [0, 3, 4, 5, 6], [0, 3, 4, 5, 6, 7, 8], [0, 3, 4, 5, 6, 7, 8, 37], [0, 3, 4, 5, 6, 7, 8], [0, 3, 4, 5, 6, 7, 8, 9], [0, 3, 4, 5, 6, 7, 9, 10], [0, 3, 4, 5, 6, 7, 9, 10, 66], [4], [0, 3, 4, 5, 6, 7, 9, 70], [0, 4, 5, 7, 11, 12], [0, 4, 5, 7, 11, 12, 83], [4], [4, 7], [4], [4, 5, 6, 7, 10, 13], [4, 5, 6, 7, 10, 13, 106], [4], [4, 7], [4]]
noncomputable def zbbx : EnvT := ⟨Tryz.prog, zw [(105, z43), (106, zz8), (107, zx4), (108, zxy)]⟩
theorem zbby : (zbbx).Ok := ze ⟨zabz, z63, z5f, z5d, trivial⟩
def zbbz : Ann := ⟨[], [], [], zbbw, []⟩
def ze6 (a0 : Deed) (a1 : Wld) : Tr (Reply × Wld) :=
  (.guard ((0 : Int) ≤ a0.C ∧ (a0.C : Int) < 2)
  (.guard ((0 : Int) ≤ a0.C ∧ (a0.C : Int) < 2)
  (.ite (a0.Back)
    (.bind (zqi (zc a1.consumers a0.C).Out a0.Forged) fun v1 =>
    (.guard ((zl (zc a1.consumers a0.C).Out (IntKind.i64.wrap ((a1.consumers.Got.get a0.C) + 1)) v1 (a1.p.Links.SSaid.get a0.C) a1.clock).isSome = true)
    (.ite (((zl (zc a1.consumers a0.C).Out (IntKind.i64.wrap ((a1.consumers.Got.get a0.C) + 1)) v1 (a1.p.Links.SSaid.get a0.C) a1.clock).getD default).2 != 0)
      (.leaf ((⟨((zl (zc a1.consumers a0.C).Out (IntKind.i64.wrap ((a1.consumers.Got.get a0.C) + 1)) v1 (a1.p.Links.SSaid.get a0.C) a1.clock).getD default).2, 0⟩ : Reply), a1))
      (.ite (a0.Back)
        (.guard ((zbl a1.p a0.C v1).isSome = true)
        (.ite (((zbl a1.p a0.C v1).getD default).2 != 0)
          (.leaf ((⟨((zbl a1.p a0.C v1).getD default).2, 0⟩ : Reply), a1))
          (.leaf ((⟨0, ((zl (zc a1.consumers a0.C).Out (IntKind.i64.wrap ((a1.consumers.Got.get a0.C) + 1)) v1 (a1.p.Links.SSaid.get a0.C) a1.clock).getD default).1.Got⟩ : Reply), { (a1 : Wld) with p := ((zbl a1.p a0.C v1).getD default).1, consumers := { (a1.consumers : zdf) with Said := (a1.consumers.Said.set a0.C ((zl (zc a1.consumers a0.C).Out (IntKind.i64.wrap ((a1.consumers.Got.get a0.C) + 1)) v1 (a1.p.Links.SSaid.get a0.C) a1.clock).getD default).1.Said), Due := (a1.consumers.Due.set a0.C ((zl (zc a1.consumers a0.C).Out (IntKind.i64.wrap ((a1.consumers.Got.get a0.C) + 1)) v1 (a1.p.Links.SSaid.get a0.C) a1.clock).getD default).1.Due), Got := (a1.consumers.Got.set a0.C ((zl (zc a1.consumers a0.C).Out (IntKind.i64.wrap ((a1.consumers.Got.get a0.C) + 1)) v1 (a1.p.Links.SSaid.get a0.C) a1.clock).getD default).1.Got), Closed := (a1.consumers.Closed.set a0.C ((zl (zc a1.consumers a0.C).Out (IntKind.i64.wrap ((a1.consumers.Got.get a0.C) + 1)) v1 (a1.p.Links.SSaid.get a0.C) a1.clock).getD default).1.Closed) } }))))
        (.bind (zka (zc a1.consumers a0.C) v1) fun v2 =>
        (.ite (v2.2 != 0)
          (.leaf ((⟨v2.2, 0⟩ : Reply), a1))
          (.leaf ((⟨0, ((zl (zc a1.consumers a0.C).Out (IntKind.i64.wrap ((a1.consumers.Got.get a0.C) + 1)) v1 (a1.p.Links.SSaid.get a0.C) a1.clock).getD default).1.Got⟩ : Reply), { (a1 : Wld) with p := { (a1.p : za) with Links := { (a1.p.Links : Links) with Said := (a1.p.Links.Said.set a0.C ((zl (zc a1.consumers a0.C).Out (IntKind.i64.wrap ((a1.consumers.Got.get a0.C) + 1)) v1 (a1.p.Links.SSaid.get a0.C) a1.clock).getD default).1.Said), Due := (a1.p.Links.Due.set a0.C ((zl (zc a1.consumers a0.C).Out (IntKind.i64.wrap ((a1.consumers.Got.get a0.C) + 1)) v1 (a1.p.Links.SSaid.get a0.C) a1.clock).getD default).1.Due), Got := (a1.p.Links.Got.set a0.C ((zl (zc a1.consumers a0.C).Out (IntKind.i64.wrap ((a1.consumers.Got.get a0.C) + 1)) v1 (a1.p.Links.SSaid.get a0.C) a1.clock).getD default).1.Got), Closed := (a1.p.Links.Closed.set a0.C ((zl (zc a1.consumers a0.C).Out (IntKind.i64.wrap ((a1.consumers.Got.get a0.C) + 1)) v1 (a1.p.Links.SSaid.get a0.C) a1.clock).getD default).1.Closed) } }, consumers := (zrw a1.consumers a0.C v2.1) }))))))))
    (.bind (zqi (zk a1.p.Links a0.C).Out a0.Forged) fun v3 =>
    (.guard ((zl (zk a1.p.Links a0.C).Out (IntKind.i64.wrap ((a1.p.Links.Got.get a0.C) + 1)) v3 (a1.consumers.SSaid.get a0.C) a1.clock).isSome = true)
    (.ite (((zl (zk a1.p.Links a0.C).Out (IntKind.i64.wrap ((a1.p.Links.Got.get a0.C) + 1)) v3 (a1.consumers.SSaid.get a0.C) a1.clock).getD default).2 != 0)
      (.leaf ((⟨((zl (zk a1.p.Links a0.C).Out (IntKind.i64.wrap ((a1.p.Links.Got.get a0.C) + 1)) v3 (a1.consumers.SSaid.get a0.C) a1.clock).getD default).2, 0⟩ : Reply), a1))
      (.ite (a0.Back)
        (.guard ((zbl a1.p a0.C v3).isSome = true)
        (.ite (((zbl a1.p a0.C v3).getD default).2 != 0)
          (.leaf ((⟨((zbl a1.p a0.C v3).getD default).2, 0⟩ : Reply), a1))
          (.leaf ((⟨0, ((zl (zk a1.p.Links a0.C).Out (IntKind.i64.wrap ((a1.p.Links.Got.get a0.C) + 1)) v3 (a1.consumers.SSaid.get a0.C) a1.clock).getD default).1.Got⟩ : Reply), { (a1 : Wld) with p := ((zbl a1.p a0.C v3).getD default).1, consumers := { (a1.consumers : zdf) with Said := (a1.consumers.Said.set a0.C ((zl (zk a1.p.Links a0.C).Out (IntKind.i64.wrap ((a1.p.Links.Got.get a0.C) + 1)) v3 (a1.consumers.SSaid.get a0.C) a1.clock).getD default).1.Said), Due := (a1.consumers.Due.set a0.C ((zl (zk a1.p.Links a0.C).Out (IntKind.i64.wrap ((a1.p.Links.Got.get a0.C) + 1)) v3 (a1.consumers.SSaid.get a0.C) a1.clock).getD default).1.Due), Got := (a1.consumers.Got.set a0.C ((zl (zk a1.p.Links a0.C).Out (IntKind.i64.wrap ((a1.p.Links.Got.get a0.C) + 1)) v3 (a1.consumers.SSaid.get a0.C) a1.clock).getD default).1.Got), Closed := (a1.consumers.Closed.set a0.C ((zl (zk a1.p.Links a0.C).Out (IntKind.i64.wrap ((a1.p.Links.Got.get a0.C) + 1)) v3 (a1.consumers.SSaid.get a0.C) a1.clock).getD default).1.Closed) } }))))
        (.bind (zka (zc a1.consumers a0.C) v3) fun v4 =>
        (.ite (v4.2 != 0)
          (.leaf ((⟨v4.2, 0⟩ : Reply), a1))
          (.leaf ((⟨0, ((zl (zk a1.p.Links a0.C).Out (IntKind.i64.wrap ((a1.p.Links.Got.get a0.C) + 1)) v3 (a1.consumers.SSaid.get a0.C) a1.clock).getD default).1.Got⟩ : Reply), { (a1 : Wld) with p := { (a1.p : za) with Links := { (a1.p.Links : Links) with Said := (a1.p.Links.Said.set a0.C ((zl (zk a1.p.Links a0.C).Out (IntKind.i64.wrap ((a1.p.Links.Got.get a0.C) + 1)) v3 (a1.consumers.SSaid.get a0.C) a1.clock).getD default).1.Said), Due := (a1.p.Links.Due.set a0.C ((zl (zk a1.p.Links a0.C).Out (IntKind.i64.wrap ((a1.p.Links.Got.get a0.C) + 1)) v3 (a1.consumers.SSaid.get a0.C) a1.clock).getD default).1.Due), Got := (a1.p.Links.Got.set a0.C ((zl (zk a1.p.Links a0.C).Out (IntKind.i64.wrap ((a1.p.Links.Got.get a0.C) + 1)) v3 (a1.consumers.SSaid.get a0.C) a1.clock).getD default).1.Got), Closed := (a1.p.Links.Closed.set a0.C ((zl (zk a1.p.Links a0.C).Out (IntKind.i64.wrap ((a1.p.Links.Got.get a0.C) + 1)) v3 (a1.consumers.SSaid.get a0.C) a1.clock).getD default).1.Closed) } }, consumers := (zrw a1.consumers a0.C v4.1) })))))))))))
def zhc (a0 : Deed) (a1 : Wld) : Option (Reply × Wld) := (ze6 a0 a1).run
def zazo : LQ (Deed × Wld) := (LQ.skip (LQ.const (.ptr 0 0)) (LQ.seq (Par.q (Par.ofLP deedL)) (LP.q wldL)))
def zmx : LQ (Reply × Wld) := (LQ.seq (Par.q (Par.ofLP zqu)) (LP.q wldL))
def zov : SpecT := zx 1 zazo 2 [.cells 109 159] (fun s => ze6 s.1 s.2) default zmx 1 [.cells 109 159]
theorem zw5 : zj Tryz.prog 85 (zov).spec :=
  zf (A := zbbz) zbby Facts.mix Tryz.func85 (c := zbbv) (by kernel_rfl) (Lc := 1) trivial zazo 2 7 [.cells 109 159] (fun s => ze6 s.1 s.2) default zmx 1 [.cells 109 159] [.pubN 0] (by decide) (by kernel_rfl) (by rfl) (by decide) (by decide) (by rfl)
    (by rintro ⟨a0, a1⟩; kernel_rfl)
noncomputable def zbb0 : Code := Tryz.f86.body.getD .skip
def zbb1 : List (List Nat) := [[0, 3, 4], [0, 3, 4, 5, 6], [0, 3, 4, 5, 7, 8], [0, 3, 4, 5, 7, 8, 33], [0, 3, 4, 5, 7, 8], [0, 3, 4, 5, 10], [0, 3, 4, 5, 10, 54], [4], [4, 5], [4], [4]]
noncomputable def zbb2 : EnvT := ⟨Tryz.prog, zw [(109, z2p), (110, zuk), (111, zuh)]⟩
theorem zbb3 : (zbb2).Ok := ze ⟨z9b, z23, z21, trivial⟩
def zbb4 : Ann := ⟨[], [], [], zbb1, []⟩
def zfm (a0 : Deed) (a1 : Wld) : Tr (Reply × Wld) :=
  (.guard ((0 : Int) ≤ a0.C ∧ (a0.C : Int) < 2)
  (.guard ((0 : Int) ≤ a0.C ∧ (a0.C : Int) < 2)
  (.ite (a0.Back)
    (.bind (zns (zc a1.consumers a0.C).Out a0.N (a1.consumers.STime.get a0.C) (a1.consumers.SGot.get a0.C)) fun v1 =>
    (.ite (v1.2 != 0)
      (.leaf ((⟨v1.2, 0⟩ : Reply), a1))
      (.guard ((zdv a1.p a0.C).isSome = true)
      (.bind (zhk (zc a1.consumers a0.C)) fun v2 =>
      (.leaf ((⟨0, 0⟩ : Reply), { (a1 : Wld) with p := ((zdv a1.p a0.C).getD default), consumers := (zrw a1.consumers a0.C v2) }))))))
    (.bind (zns (zk a1.p.Links a0.C).Out a0.N (a1.p.Links.STime.get a0.C) (a1.p.Links.SGot.get a0.C)) fun v3 =>
    (.ite (v3.2 != 0)
      (.leaf ((⟨v3.2, 0⟩ : Reply), a1))
      (.guard ((zdv a1.p a0.C).isSome = true)
      (.bind (zhk (zc a1.consumers a0.C)) fun v4 =>
      (.leaf ((⟨0, 0⟩ : Reply), { (a1 : Wld) with p := ((zdv a1.p a0.C).getD default), consumers := (zrw a1.consumers a0.C v4) })))))))))
def zib (a0 : Deed) (a1 : Wld) : Option (Reply × Wld) := (zfm a0 a1).run
def zazp : LQ (Deed × Wld) := (LQ.skip (LQ.const (.ptr 0 0)) (LQ.seq (Par.q (Par.ofLP deedL)) (LP.q wldL)))
def zow : LQ (Reply × Wld) := (LQ.seq (Par.q (Par.ofLP zqu)) (LP.q wldL))
def zpn : SpecT := zx 1 zazp 2 [.cells 109 159] (fun s => zfm s.1 s.2) default zow 1 [.cells 109 159]
theorem zyd : zj Tryz.prog 86 (zpn).spec :=
  zf (A := zbb4) zbb3 Facts.mix Tryz.func86 (c := zbb0) (by kernel_rfl) (Lc := 1) trivial zazp 2 8 [.cells 109 159] (fun s => zfm s.1 s.2) default zow 1 [.cells 109 159] [.pubN 0] (by decide) (by kernel_rfl) (by rfl) (by decide) (by decide) (by rfl)
    (by rintro ⟨a0, a1⟩; kernel_rfl)
noncomputable def zbb5 : Code := Tryz.f65.body.getD .skip
def zbb6 : List (List Nat) := [[0, 3, 4], [0, 3, 4, 17], [4], [0, 3, 4, 26], [4], [0, 3, 4, 5], [0, 3, 4, 5, 43], [4], [0, 3, 4, 5, 6], [0, 3, 4, 5, 6, 7], [0, 3, 4, 5, 6, 7, 49], [0, 3, 4, 5, 6, 7, 49, 50], [0, 3, 4, 5, 8, 9], [0, 3, 4, 5, 8, 9, 63], [4], [0, 3, 4, 8], [4, 8], [4], [0, 3, 4, 5, 6, 7, 49, 91], [0, 3, 4, 5, 6, 7], [0, 3, 4, 5, 6, 7, 103], [4, 5, 6, 7], [0, 3, 4, 5, 6, 7, 49, 130], [0, 3, 4, 5, 6, 7, 133], [4, 5, 6, 7], [4, 5, 6, 7], [0, 3, 4, 5, 6, 7, 49, 159], [4], [0, 3, 4, 5, 6, 7, 49, 164], [4], [0, 3, 4, 5, 6, 7, 49, 169], [4, 5, 6, 7], [0, 3, 4, 5, 6, 7, 182], [4, 5, 6, 7], [4, 5, 6, 7, 198], [4], [4], [4]]
noncomputable def zbb7 : EnvT := ⟨Tryz.prog, zw [(82, zws), (83, zwo), (84, z0g), (85, zov), (86, zpn), (87, zx1), (88, zug)]⟩
theorem zbb8 : (zbb7).Ok := ze ⟨z3v, z3u, z7b, zw5, zyd, z5e, z20, trivial⟩
def zbb9 : Ann := ⟨[], [], [], zbb6, []⟩
def ze7 (a0 : Deed) (a1 : Wld) : Tr (Reply × Wld) :=
  (.ite ((decide (a0.Kind < 4)) || (decide (a0.Kind > 12)))
    (.leaf ((⟨3, 0⟩ : Reply), a1))
    (.ite ((decide (a0.C < 0)) || (decide (a0.C ≥ 2)))
      (.leaf ((⟨4, 0⟩ : Reply), a1))
      (.guard ((0 : Int) ≤ a0.C ∧ (a0.C : Int) < 2)
      (.ite ((a0.Kind != 4) && (!(a1.consumers.On.get a0.C)))
        (.leaf ((⟨4, 0⟩ : Reply), a1))
        (.ite (a0.Kind == 4)
          (.guard ((zas a1.p a0.C).isSome = true)
          (.ite (((zas a1.p a0.C).getD default).2 != 0)
            (.leaf ((⟨((zas a1.p a0.C).getD default).2, 0⟩ : Reply), a1))
            (.guard ((ziu ((zas a1.p a0.C).getD default).1.Set ((zas a1.p a0.C).getD default).1.Height a1.clock).isSome = true)
            (.guard ((0 : Int) ≤ a0.C ∧ (a0.C : Int) < 2)
            (.leaf ((⟨0, ((zas a1.p a0.C).getD default).1.Height⟩ : Reply), (⟨a1.clock, ((zas a1.p a0.C).getD default).1, (zrw a1.consumers a0.C ((ziu ((zas a1.p a0.C).getD default).1.Set ((zas a1.p a0.C).getD default).1.Height a1.clock).getD default)), (⟨(a1.heads.PHeight.set a0.C 0), (a1.heads.PTime.set a0.C 0), (a1.heads.PSaid.set a0.C 0), (a1.heads.PGot.set a0.C 0), (a1.heads.CHeight.set a0.C 0), (a1.heads.CTime.set a0.C 0), (a1.heads.CSaid.set a0.C 0), (a1.heads.CGot.set a0.C 0)⟩ : zzn), a1.deeds⟩ : Wld)))))))
          (.ite (a0.Kind == 7)
            (.guard ((zaa (zc a1.consumers a0.C) a1.clock).isSome = true)
            (.ite (((zaa (zc a1.consumers a0.C) a1.clock).getD default).2 == 0)
              (.guard ((0 : Int) ≤ a0.C ∧ (a0.C : Int) < 2)
              (.guard ((0 : Int) ≤ a0.C ∧ (a0.C : Int) < 2)
              (.guard ((0 : Int) ≤ 1 ∧ (1 : Int) < 2)
              (.ite (((zaa (zc a1.consumers a0.C) a1.clock).getD default).2 != 0)
                (.leaf ((⟨((zaa (zc a1.consumers a0.C) a1.clock).getD default).2, 0⟩ : Reply), { (a1 : Wld) with heads := { (a1.heads : zzn) with CHeight := (a1.heads.CHeight.set a0.C ((zaa (zc a1.consumers a0.C) a1.clock).getD default).1.Height), CTime := (a1.heads.CTime.set a0.C ((zaa (zc a1.consumers a0.C) a1.clock).getD default).1.Time), CSaid := (a1.heads.CSaid.set a0.C ((((zaa (zc a1.consumers a0.C) a1.clock).getD default).1.Out.Said.length : Nat) : Int)), CGot := (a1.heads.CGot.set a0.C (a1.p.Links.Got.get a0.C)) } }))
                (.leaf ((⟨0, 0⟩ : Reply), { (a1 : Wld) with consumers := (zrw a1.consumers a0.C ((zaa (zc a1.consumers a0.C) a1.clock).getD default).1), heads := { (a1.heads : zzn) with CHeight := (a1.heads.CHeight.set a0.C ((zaa (zc a1.consumers a0.C) a1.clock).getD default).1.Height), CTime := (a1.heads.CTime.set a0.C ((zaa (zc a1.consumers a0.C) a1.clock).getD default).1.Time), CSaid := (a1.heads.CSaid.set a0.C ((((zaa (zc a1.consumers a0.C) a1.clock).getD default).1.Out.Said.length : Nat) : Int)), CGot := (a1.heads.CGot.set a0.C (a1.p.Links.Got.get a0.C)) } }))))))
              (.ite (((zaa (zc a1.consumers a0.C) a1.clock).getD default).2 != 0)
                (.leaf ((⟨((zaa (zc a1.consumers a0.C) a1.clock).getD default).2, 0⟩ : Reply), a1))
                (.leaf ((⟨0, 0⟩ : Reply), { (a1 : Wld) with consumers := (zrw a1.consumers a0.C ((zaa (zc a1.consumers a0.C) a1.clock).getD default).1) })))))
            (.ite (a0.Kind == 8)
              (.ite (a0.Back)
                (.guard ((0 : Int) ≤ a0.C ∧ (a0.C : Int) < 2)
                (.guard ((0 : Int) ≤ 1 ∧ (1 : Int) < 2)
                (.guard ((0 : Int) ≤ a0.C ∧ (a0.C : Int) < 2)
                (.ite (false)
                  (.leaf ((⟨0, 0⟩ : Reply), { (a1 : Wld) with p := { (a1.p : za) with Links := { (a1.p.Links : Links) with SHeight := (a1.p.Links.SHeight.set a0.C (a1.heads.CHeight.get a0.C)), STime := (a1.p.Links.STime.set a0.C (a1.heads.CTime.get a0.C)), SSaid := (a1.p.Links.SSaid.set a0.C (a1.heads.CSaid.get a0.C)), SGot := (a1.p.Links.SGot.set a0.C (a1.heads.CGot.get a0.C)) } } }))
                  (.leaf ((⟨0, 0⟩ : Reply), { (a1 : Wld) with p := { (a1.p : za) with Links := { (a1.p.Links : Links) with SHeight := (a1.p.Links.SHeight.set a0.C (a1.heads.CHeight.get a0.C)), STime := (a1.p.Links.STime.set a0.C (a1.heads.CTime.get a0.C)), SSaid := (a1.p.Links.SSaid.set a0.C (a1.heads.CSaid.get a0.C)), SGot := (a1.p.Links.SGot.set a0.C (a1.heads.CGot.get a0.C)) } }, consumers := (zrw a1.consumers a0.C (zc a1.consumers a0.C)) }))))))
                (.guard ((0 : Int) ≤ a0.C ∧ (a0.C : Int) < 2)
                (.guard ((0 : Int) ≤ 0 ∧ (0 : Int) < 2)
                (.ite (false)
                  (.leaf ((⟨0, 0⟩ : Reply), a1))
                  (.leaf ((⟨0, 0⟩ : Reply), { (a1 : Wld) with consumers := (zrw a1.consumers a0.C ({ ((zc a1.consumers a0.C) : zb) with Seen := (⟨a1.heads.PHeight.get a0.C, a1.heads.PTime.get a0.C, a1.heads.PSaid.get a0.C, a1.heads.PGot.get a0.C⟩ : z9i) })) }))))))
              (.ite (a0.Kind == 9)
                (.bind (zhc a0 a1) fun v1 =>
                (.leaf (v1.1, v1.2)))
                (.ite (a0.Kind == 10)
                  (.bind (zib a0 a1) fun v2 =>
                  (.leaf (v2.1, v2.2)))
                  (.ite (a0.Kind == 11)
                    (.guard ((zex (zc a1.consumers a0.C) a0.V a1.clock).isSome = true)
                    (.ite (((zex (zc a1.consumers a0.C) a0.V a1.clock).getD default).2 != 0)
                      (.leaf ((⟨((zex (zc a1.consumers a0.C) a0.V a1.clock).getD default).2, 0⟩ : Reply), a1))
                      (.leaf ((⟨0, 0⟩ : Reply), { (a1 : Wld) with consumers := (zrw a1.consumers a0.C ((zex (zc a1.consumers a0.C) a0.V a1.clock).getD default).1) }))))
                    (.ite (a0.Kind == 12)
                      (.guard ((zdt (zc a1.consumers a0.C) a0.V a0.N a1.clock).isSome = true)
                      (.ite (((zdt (zc a1.consumers a0.C) a0.V a0.N a1.clock).getD default).2 != 0)
                        (.leaf ((⟨((zdt (zc a1.consumers a0.C) a0.V a0.N a1.clock).getD default).2, 0⟩ : Reply), a1))
                        (.leaf ((⟨0, 0⟩ : Reply), { (a1 : Wld) with consumers := (zrw a1.consumers a0.C ((zdt (zc a1.consumers a0.C) a0.V a0.N a1.clock).getD default).1) }))))
                      (.ite (false)
                        (.leaf ((⟨0, 0⟩ : Reply), a1))
                        (.leaf ((⟨0, 0⟩ : Reply), { (a1 : Wld) with consumers := (zrw a1.consumers a0.C (zc a1.consumers a0.C)) }))))))))))))))
def zhd (a0 : Deed) (a1 : Wld) : Option (Reply × Wld) := (ze7 a0 a1).run
def zazq : LQ (Deed × Wld) := (LQ.skip (LQ.const (.ptr 0 0)) (LQ.seq (Par.q (Par.ofLP deedL)) (LP.q wldL)))
def zmy : LQ (Reply × Wld) := (LQ.seq (Par.q (Par.ofLP zqu)) (LP.q wldL))
def zox : SpecT := zx 1 zazq 2 [.cells 109 159] (fun s => ze7 s.1 s.2) default zmy 1 [.cells 109 159]
theorem zw6 : zj Tryz.prog 65 (zox).spec :=
  zf (A := zbb9) zbb8 Facts.mix Tryz.func65 (c := zbb5) (by kernel_rfl) (Lc := 1) trivial zazq 2 7 [.cells 109 159] (fun s => ze7 s.1 s.2) default zmy 1 [.cells 109 159] [.pubN 0] (by decide) (by kernel_rfl) (by rfl) (by decide) (by decide) (by rfl)
    (by rintro ⟨a0, a1⟩; kernel_rfl)
noncomputable def zbca : Code := Tryz.f29.body.getD .skip
def zbcb : List (List Nat) := [[0, 3, 4], [0, 3, 4, 7], [4], [0, 3, 4, 11], [4], [0, 3, 4], [0, 3, 4], [0, 3, 4, 6], [0, 3, 4, 6, 30], [4], [0, 3, 4, 6, 30, 34], [0, 4, 5, 6], [0, 3, 4, 6, 30, 47], [0, 4, 5, 6], [0, 3, 4, 6, 30, 64], [0, 4, 5, 6], [0, 3, 4, 6, 30, 75], [0, 4, 5, 6], [0, 3, 4, 30, 86], [0, 3, 4, 100], [4], [0, 4], [4], [0, 3, 4, 116], [4], [0, 4, 5, 6, 121], [4], [4], [4]]
noncomputable def zbcc : EnvT := ⟨Tryz.prog, zw [(60, zrh), (61, zos), (62, z0e), (63, zri), (64, zou), (65, zox)]⟩
theorem zbcd : (zbcc).Ok := ze ⟨zzq, zw3, z68, zzr, zw4, zw6, trivial⟩
def zbce : Ann := ⟨[], [], [[1, 0, 0, 1]], zbcb, []⟩
def zke (a0 : Deed) (a1 : Wld) : Tr (Reply × Wld) :=
  (.ite (decide (a1.deeds ≥ 600))
    (.leaf ((⟨6, 0⟩ : Reply), a1))
    (.ite (a0.Kind == 1)
      (.bind (zja a1.p a0.D a0.V a0.N) fun v1 =>
      (.ite (v1.2 != 0)
        (.leaf ((⟨v1.2, 0⟩ : Reply), { (a1 : Wld) with deeds := IntKind.i64.wrap (a1.deeds + 1) }))
        (.leaf ((⟨0, 0⟩ : Reply), { (a1 : Wld) with p := v1.1, deeds := IntKind.i64.wrap (a1.deeds + 1) }))))
      (.ite (a0.Kind == 2)
        (.guard ((zbt a1.p a0.D a0.V a0.N a1.clock).isSome = true)
        (.ite (((zbt a1.p a0.D a0.V a0.N a1.clock).getD default).2 != 0)
          (.leaf ((⟨((zbt a1.p a0.D a0.V a0.N a1.clock).getD default).2, 0⟩ : Reply), { (a1 : Wld) with deeds := IntKind.i64.wrap (a1.deeds + 1) }))
          (.leaf ((⟨0, 0⟩ : Reply), { (a1 : Wld) with p := ((zbt a1.p a0.D a0.V a0.N a1.clock).getD default).1, deeds := IntKind.i64.wrap (a1.deeds + 1) }))))
        (.ite (a0.Kind == 3)
          (.bind (zra a1.p.Stake a0.V) fun v2 =>
          (.ite (v2.2 != 0)
            (.leaf ((⟨v2.2, 0⟩ : Reply), { (a1 : Wld) with deeds := IntKind.i64.wrap (a1.deeds + 1) }))
            (.leaf ((⟨0, 0⟩ : Reply), { (a1 : Wld) with p := { (a1.p : za) with Stake := v2.1 }, deeds := IntKind.i64.wrap (a1.deeds + 1) }))))
          (.ite (a0.Kind == 13)
            (.bind (zjc a1.p a0.V a0.N) fun v3 =>
            (.ite (v3.2 != 0)
              (.leaf ((⟨v3.2, 0⟩ : Reply), { (a1 : Wld) with deeds := IntKind.i64.wrap (a1.deeds + 1) }))
              (.leaf ((⟨0, 0⟩ : Reply), { (a1 : Wld) with p := v3.1, deeds := IntKind.i64.wrap (a1.deeds + 1) }))))
            (.ite (a0.Kind == 5)
              (.ite ((decide (a0.N < 1)) || (decide (a0.N > (IntKind.i64.wrap (1099511627736 - a1.clock)))))
                (.leaf ((⟨2, 0⟩ : Reply), { (a1 : Wld) with deeds := IntKind.i64.wrap (a1.deeds + 1) }))
                (.leaf ((⟨0, IntKind.i64.wrap (a1.clock + a0.N)⟩ : Reply), { (a1 : Wld) with clock := IntKind.i64.wrap (a1.clock + a0.N), deeds := IntKind.i64.wrap (a1.deeds + 1) })))
              (.ite (a0.Kind == 6)
                (.bind (zhb ({ (a1 : Wld) with deeds := IntKind.i64.wrap (a1.deeds + 1) })) fun v4 =>
                (.leaf (v4.1, v4.2)))
                (.bind (zhd a0 ({ (a1 : Wld) with deeds := IntKind.i64.wrap (a1.deeds + 1) })) fun v5 =>
                (.leaf (v5.1, v5.2))))))))))
def zd (a0 : Deed) (a1 : Wld) : Option (Reply × Wld) := (zke a0 a1).run
def zazr : LQ (Deed × Wld) := (LQ.skip (LQ.const (.ptr 0 0)) (LQ.seq (Par.q (Par.ofLP deedL)) (LP.q wldL)))
def zul : LQ (Reply × Wld) := (LQ.seq (Par.q (Par.ofLP zqu)) (LP.q wldL))
def zcl : SpecT := zx 1 zazr 2 [.cells 109 159] (fun s => zke s.1 s.2) default zul 1 [.cells 109 159]
theorem zcy : zj Tryz.prog 29 (zcl).spec :=
  zf (A := zbce) zbcd Facts.mix Tryz.func29 (c := zbca) (by kernel_rfl) (Lc := 1) trivial zazr 2 6 [.cells 109 159] (fun s => zke s.1 s.2) default zul 1 [.cells 109 159] [.pubN 0] (by decide) (by kernel_rfl) (by rfl) (by decide) (by decide) (by rfl)
    (by rintro ⟨a0, a1⟩; kernel_rfl)
noncomputable def zau6 : Code := Tryz.f16.body.getD .skip
def zazs : List (List Nat) := [[0], [0, 10], [2, 3], [0, 4], [0, 4, 5], [4, 5, 13, 14, 15], [4, 5, 13, 14, 15, 16], [4, 5, 7, 13, 14, 15], [4, 5, 13, 14, 15], [4, 5, 13, 14, 15], [2, 3]]
noncomputable def zazt : EnvT := ⟨Tryz.prog, zw [(43, zrl), (45, zll), (29, zcl)]⟩
theorem zazu : (zazt).Ok := ze ⟨zta, zua, zcy, trivial⟩
def zjz (x0 : Int) (x1 : Int) (x2 : Wld) (x3 : (List Reply)) (x4 : (List Deed)) : Tr ((Int × Int × Wld × (List Reply) × (List Deed)) ⊕ ((List Reply))) :=
  (.ite (decide (x1 < x0))
    (.guard ((0 : Int) ≤ x1 ∧ x1 < ((Sl.len (.deeds x4) : Nat) : Int))
    (.bind (zd (x4.getD x1.toNat default) x2) fun v3 =>
    (.guard ((Sl.len (.replies x3) + Sl.len (.replies [v3.1])) * 16 ≤ 140737488355328)
    (.leaf (.inl (x0, IntKind.i64.wrap (x1 + 1), v3.2, x3 ++ [v3.1], x4))))))
    (.leaf (.inr x3)))
def zro (x0 : Int) (x1 : Int) (x2 : Wld) (x3 : (List Reply)) (x4 : (List Deed)) : Option ((List Reply)) := zd5 (fun s : Int × Int × Wld × (List Reply) × (List Deed) => (zjz s.1 s.2.1 s.2.2.1 s.2.2.2.1 s.2.2.2.2).run) (x0, x1, x2, x3, x4)
def zazv : Ann := ⟨[], [], [], zazs, []⟩
def zazw : EndD (Int × Int × Wld × (List Reply) × (List Deed)) := ⟨(LQ.skip (LQ.const (.ptr 0 0)) (LQ.skip (LQ.const (.own 1)) (LQ.skip (LQ.const (.own 2)) (LQ.seq (Par.q intP) (LQ.seq (Par.q intP) (LQ.seq (LP.q wldL) (LQ.seq (Par.q z17) (Par.q deedsP)))))))), ⟨[4, 5, 13, 14, 15], [.nilown 5 29 (.replies []), .nilown 13 35 (.deeds [])]⟩, [.cells 109 159, .rows 29, .rows 35]⟩
def zao9 : EndD ((List Reply)) := ⟨(LQ.skip (LQ.const (.own 0)) (Par.q z17)), ⟨[5], [.nilown 5 29 (.replies [])]⟩, [.rows 29]⟩
def zar4 : St → Option LR := L1 27 8 0 zazw (.exit 0) zao9 (fun s => zjz s.1 s.2.1 s.2.2.1 s.2.2.2.1 s.2.2.2.2)
theorem zazx : zv (zazt).env 0 (sub zau6 [0, 1, 0, 1, 1, 1, 1]) zar4 :=
  zji (A := zazv) zazu Facts.mix trivial (k := zb1 (sub zau6 [0, 1, 0, 1, 1, 1, 1])) (by kernel_rfl) rfl (by rintro ⟨x0, x1, x2, x3, x4⟩; kernel_rfl)
def zbcf : Ann := ⟨[([0, 1, 0, 1, 1, 1, 1], zar4)], [], [], zazs, []⟩
def zvq (a0 : (List Deed)) : Tr ((List Reply) × Int) :=
  (.ite (decide (((a0.length : Nat) : Int) > 600))
    (.leaf ([], 6))
    (.bind (zk8) fun v1 =>
    (.bind (zfq a0) fun v2 =>
    (.bind (zro ((v2.length : Nat) : Int) 0 v1 [] v2) fun v4 =>
    (.leaf (v4, 0))))))
def zic (a0 : (List Deed)) : Option ((List Reply) × Int) := (zvq a0).run
def zazy : LQ ((List Deed)) := (Par.q deedsP)
def z44 : LQ ((List Reply) × Int) := (LQ.seq (Par.q z17) (Par.q intP))
def z7g : SpecT := zx 0 zazy 1 [] (fun s => zvq s) default z44 2 []
theorem zadz : zj Tryz.prog 16 (z7g).spec :=
  zf (A := zbcf) zazu Facts.mix Tryz.func16 (c := zau6) (by kernel_rfl) (Lc := 0) ⟨zazx, trivial⟩ zazy 1 8 [] (fun s => zvq s) default z44 2 [] [.pub 2] (by decide) (by kernel_rfl) (by rfl) (by decide) (by decide) (by rfl)
    (by rintro a0; kernel_rfl)
noncomputable def zff : SpecT := roT zel
theorem zi6 : zj Tryz.prog 19 (zff).spec := zark zgt
noncomputable def zfg : SpecT := roT zcu
theorem zi7 : zj Tryz.prog 23 (zfg).spec := zark zd3
end
end Go.Proofs.YtmakmlnfbdablaaGreat.Ab
