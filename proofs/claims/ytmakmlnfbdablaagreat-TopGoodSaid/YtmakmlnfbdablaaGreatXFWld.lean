/-
  The functions, each by its tree.
-/
import Derived.Test.YtmakmlnfbdablaaGreatXAbFun
import Derived.Test.YtmakmlnfbdablaaGreatXAbStructs
import Derived.Test.YtmakmlnfbdablaaGreatXFBank
import Derived.Test.YtmakmlnfbdablaaGreatXFCodec
import Derived.Test.YtmakmlnfbdablaaGreatXFCons
import Derived.Test.YtmakmlnfbdablaaGreatXFLine
import Derived.Test.YtmakmlnfbdablaaGreatXFProv
import Derived.Test.YtmakmlnfbdablaaGreatXFStakeA
import Derived.Test.YtmakmlnfbdablaaGreatXFStakeB
import Derived.Test.YtmakmlnfbdablaaGreatXFacts
namespace Go.Proofs.YtmakmlnfbdablaaGreat.Ab
open Go Go.RowKit
set_option maxRecDepth 100000
set_option linter.unusedVariables false
set_option linter.unusedSimpArgs false
noncomputable section
noncomputable def za2l : Code := Tryz.f43.body.getD .skip
def za2m : List (List Nat) := [[], [0]]
noncomputable def za2n : EnvT := ⟨Tryz.prog, zq [(31, zxw)]⟩
theorem za2o : (za2n).Ok := zc ⟨z4o, trivial⟩
def za2p : Ann := ⟨[], [], [], za2m, []⟩
def ztj  : Tr (Wld) :=
  (.bind (zpi) fun v1 =>
  (.leaf (⟨0, v1, (default : zcp), (default : zw0), 0⟩ : Wld)))
def zmz  : Option (Wld) := (ztj ).run
def zaud : LQ (Unit) := LQ.nil
def z2f : LQ (Wld) := (LQ.skip (LQ.const (.ptr 0 0)) (LP.q zst))
def ztk : SpecT := zt 0 zaud 0 [] (fun s => ztj ) default z2f 1 [.cells 109 159]
theorem zvp : zg Tryz.prog 43 (ztk).spec :=
  zd (A := za2p) za2o Facts.mix Tryz.func43 (c := za2l) (by kernel_rfl) (Lc := 0) trivial zaud 0 3 [] (fun s => ztj ) default z2f 1 [.cells 109 159] [.pubB 0] (by decide) (by kernel_rfl) (by rfl) (by decide) (by decide) (by rfl)
    (by rintro _; kernel_rfl)
noncomputable def za2q : Code := Tryz.f40.body.getD .skip
def za2r : List (List Nat) := [[0], [0, 4], [2], [2]]
noncomputable def za2s : EnvT := ⟨Tryz.prog, zq []⟩
theorem za2t : (za2s).Ok := zc trivial
def za2u : Ann := ⟨[], [], [[1, 0, 1]], za2r, []⟩
def zfy (a0 : Wld) : Tr (Int × Wld) :=
  (.leaf (a0.clock, a0))
def zie (a0 : Wld) : Option (Int × Wld) := (zfy a0).run
def zaue : LQ (Wld) := (LQ.skip (LQ.const (.ptr 0 0)) (LP.q zst))
def znq : LQ (Int × Wld) := (LQ.seq (Par.q intP) (LP.q zst))
def zpo : SpecT := zt 1 zaue 1 [.cells 109 159] (fun s => zfy s) default znq 1 [.cells 109 159]
theorem zw5 : zg Tryz.prog 40 (zpo).spec :=
  zd (A := za2u) za2t Facts.mix Tryz.func40 (c := za2q) (by kernel_rfl) (Lc := 1) trivial zaue 1 3 [.cells 109 159] (fun s => zfy s) default znq 1 [.cells 109 159] [.pubN 0] (by decide) (by kernel_rfl) (by rfl) (by decide) (by decide) (by rfl)
    (by rintro a0; kernel_rfl)
noncomputable def za2v : Code := Tryz.f46.body.getD .skip
def za2w : List (List Nat) := [[0], [2]]
noncomputable def za2x : EnvT := ⟨Tryz.prog, zq []⟩
theorem za2y : (za2x).Ok := zc trivial
def za2z : Ann := ⟨[], [], [], za2w, []⟩
def zmd (a0 : (List Power)) : Tr ((List Power)) :=
  (.guard ((0 + Sl.len (.powers a0)) * 16 ≤ 140737488355328)
  (.leaf a0))
def zb2 (a0 : (List Power)) : Option ((List Power)) := (zmd a0).run
def zauf : LQ ((List Power)) := (Par.q zo)
def zvq : LQ ((List Power)) := (Par.q zo)
def zme : SpecT := zt 0 zauf 1 [] (fun s => zmd s) default zvq 1 []
theorem zpp : zg Tryz.prog 46 (zme).spec :=
  zd (A := za2z) za2y Facts.mix Tryz.func46 (c := za2v) (by kernel_rfl) (Lc := 0) trivial zauf 1 3 [] (fun s => zmd s) default zvq 1 [] [.pub 2] (by decide) (by kernel_rfl) (by rfl) (by decide) (by decide) (by rfl)
    (by rintro a0; kernel_rfl)
noncomputable def za21 : Code := Tryz.f47.body.getD .skip
def za3a : List (List Nat) := [[0], [2]]
noncomputable def za3b : EnvT := ⟨Tryz.prog, zq []⟩
theorem za3c : (za3b).Ok := zc trivial
def za3d : Ann := ⟨[], [], [], za3a, []⟩
def zkp (a0 : (List Int)) : Tr ((List Int)) :=
  (.guard ((0 + Sl.len (.ints a0)) * 8 ≤ 140737488355328)
  (.leaf a0))
def zcb (a0 : (List Int)) : Option ((List Int)) := (zkp a0).run
def zaug : LQ ((List Int)) := (Par.q zgz)
def zua : LQ ((List Int)) := (Par.q zgz)
def zkq : SpecT := zt 0 zaug 1 [] (fun s => zkp s) default zua 1 []
theorem zni : zg Tryz.prog 47 (zkq).spec :=
  zd (A := za3d) za3c Facts.mix Tryz.func47 (c := za21) (by kernel_rfl) (Lc := 0) trivial zaug 1 3 [] (fun s => zkp s) default zua 1 [] [.pub 2] (by decide) (by kernel_rfl) (by rfl) (by decide) (by decide) (by rfl)
    (by rintro a0; kernel_rfl)
noncomputable def za3e : Code := Tryz.f49.body.getD .skip
def za3f : List (List Nat) := [[1, 2], [1, 2], [2]]
noncomputable def za3g : EnvT := ⟨Tryz.prog, zq [(46, zme), (47, zkq)]⟩
theorem za3h : (za3g).Ok := zc ⟨zpp, zni, trivial⟩
def za3i : Ann := ⟨[], [], [], za3f, []⟩
def zmf (a0 : Packet) : Tr (Packet) :=
  (.guard ((zb2 a0.Set).isSome = true)
  (.guard ((zcb a0.Done).isSome = true)
  (.leaf ({ (a0 : Packet) with Set := ((zb2 a0.Set).getD default), Done := ((zcb a0.Done).getD default) }))))
def zff (a0 : Packet) : Option (Packet) := (zmf a0).run
def zauh : LQ (Packet) := (Par.q (Par.ofLP zlb))
def zvr : LQ (Packet) := (Par.q (Par.ofLP zlb))
def zrk : SpecT := zt 0 zauh 1 [] (fun s => zmf s) default zvr 1 []
theorem zvs : zg Tryz.prog 49 (zrk).spec :=
  zd (A := za3i) za3h Facts.mix Tryz.func49 (c := za3e) (by kernel_rfl) (Lc := 0) trivial zauh 1 4 [] (fun s => zmf s) default zvr 1 [] [.pubB 2] (by decide) (by kernel_rfl) (by rfl) (by decide) (by decide) (by rfl)
    (by rintro a0; kernel_rfl)
noncomputable def za3j : Code := Tryz.f48.body.getD .skip
def za3k : List (List Nat) := [[1, 2], [1, 2], [2]]
noncomputable def za3l : EnvT := ⟨Tryz.prog, zq [(47, zkq)]⟩
theorem za3m : (za3l).Ok := zc ⟨zni, trivial⟩
def za3n : Ann := ⟨[], [], [], za3k, []⟩
def zkr (a0 : zes) : Tr (zes) :=
  (.guard ((0 + Sl.len (.strs a0.Said)) * 16 ≤ 140737488355328)
  (.guard ((zcb a0.Due).isSome = true)
  (.leaf ({ (a0 : zes) with Due := ((zcb a0.Due).getD default) }))))
def zbo (a0 : zes) : Option (zes) := (zkr a0).run
def zaui : LQ (zes) := (Par.q (Par.ofLP lineL))
def zub : LQ (zes) := (Par.q (Par.ofLP lineL))
def zpq : SpecT := zt 0 zaui 1 [] (fun s => zkr s) default zub 1 []
theorem zuc : zg Tryz.prog 48 (zpq).spec :=
  zd (A := za3n) za3m Facts.mix Tryz.func48 (c := za3j) (by kernel_rfl) (Lc := 0) trivial zaui 1 5 [] (fun s => zkr s) default zub 1 [] [.pubB 2] (by decide) (by kernel_rfl) (by rfl) (by decide) (by decide) (by rfl)
    (by rintro a0; kernel_rfl)
noncomputable def zais : Code := Tryz.f19.body.getD .skip
def zaqs : List (List Nat) := [[0, 2], [0, 2, 10], [2], [2, 3], [2, 3], [2, 3], [2, 3, 26], [2, 3, 26, 27], [2, 3, 4, 26], [2, 3, 5, 26], [2, 3, 26], [2, 3, 26], [2, 3, 6], [2, 3, 6, 58, 59, 60], [2, 3, 6, 58, 59, 60, 61], [2, 3, 6, 8, 58, 59, 60], [2, 3, 6, 58, 59, 60], [2, 3, 6, 58, 59, 60], [2, 3], [2]]
noncomputable def zaqt : EnvT := ⟨Tryz.prog, zq [(46, zme), (47, zkq), (48, zpq), (49, zrk)]⟩
theorem zaqu : (zaqt).Ok := zc ⟨zpp, zni, zuc, zvs, trivial⟩
def zao (x0 : Int) (x1 : Wld) (x2 : za) (x3 : za) : Tr ((Int × Wld × za × za) ⊕ (Wld × za × za)) :=
  (.ite (decide (x0 < 2))
    (.guard ((0 : Int) ≤ x0 ∧ (x0 : Int) < 2)
    (.guard ((zb2 (x3.Links.Told.get x0)).isSome = true)
    (.guard ((zcb (x3.Links.Done.get x0)).isSome = true)
    (.guard ((zbo (zv x3.Links x0).Out).isSome = true)
    (.leaf (.inl (IntKind.i64.wrap (x0 + 1), x1, x2, { (x3 : za) with Links := { (x3.Links : Links) with Told := (x3.Links.Told.set x0 ((zb2 (x3.Links.Told.get x0)).getD default)), Done := (x3.Links.Done.set x0 ((zcb (x3.Links.Done.get x0)).getD default)), Said := (x3.Links.Said.set x0 ((zbo (zv x3.Links x0).Out).getD default).Said), Due := (x3.Links.Due.set x0 ((zbo (zv x3.Links x0).Out).getD default).Due), Got := (x3.Links.Got.set x0 ((zbo (zv x3.Links x0).Out).getD default).Got), Closed := (x3.Links.Closed.set x0 ((zbo (zv x3.Links x0).Out).getD default).Closed) } })))))))
    (.leaf (.inr (x1, x2, x3))))
def zd4 (x0 : Int) (x1 : Wld) (x2 : za) (x3 : za) : Option (Wld × za × za) := zel (fun s : Int × Wld × za × za => (zao s.1 s.2.1 s.2.2.1 s.2.2.2).run) (x0, x1, x2, x3)
def zauj : Ann := ⟨[], [], [], zaqs, []⟩
def zauk : EndD (Int × Wld × za × za) := ⟨(LQ.map (LQ.skip (LQ.const (.ptr 1 0)) (LQ.skip (LQ.const (.ptr 2 0)) (LQ.seq (Par.q intP) (LQ.seq (LP.q zst) (LQ.seq (LP.q providerL) (LQ.seq (Par.q intP) (LQ.seq (Par.q intP) (LQ.seq (LP.q bankL) (LQ.seq (LP.q validatorsL) (LQ.seq (LP.q (a4L (a6L (LP.one intP)))) (LQ.skip (LQ.const (.own 3)) (LQ.seq (Par.q intP) (LQ.seq (Par.q zo) (LQ.seq (LP.q linksL) (LQ.seq (LP.q meterL) (LQ.seq (Par.q zey) (Par.q zmp))))))))))))))))) (fun x : Int × Wld × za × Int × Int × Bank × Validators × (A4 (A6 Int)) × Int × (List Power) × Links × Meter × (List Asked) × (List Wait) => ((x.1, x.2.1, x.2.2.1, (⟨x.2.2.2.1, x.2.2.2.2.1, (⟨x.2.2.2.2.2.1, x.2.2.2.2.2.2.1, x.2.2.2.2.2.2.2.1, x.2.2.2.2.2.2.2.2.2.2.2.2.2, x.2.2.2.2.2.2.2.2.1⟩ : Stake), x.2.2.2.2.2.2.2.2.2.1, x.2.2.2.2.2.2.2.2.2.2.1, x.2.2.2.2.2.2.2.2.2.2.2.1, x.2.2.2.2.2.2.2.2.2.2.2.2.1⟩ : za)) : Int × Wld × za × za)) (fun y => (y.1, y.2.1, y.2.2.1, y.2.2.2.Height, y.2.2.2.Time, y.2.2.2.Stake.Bank, y.2.2.2.Stake.Validators, y.2.2.2.Stake.Shares, y.2.2.2.Stake.Next, y.2.2.2.Set, y.2.2.2.Links, y.2.2.2.Meter, y.2.2.2.Queue, y.2.2.2.Stake.Waits)) (fun _ => rfl)), ⟨[2, 3, 26], [.nilcell 3 63 98 (.waits [])]⟩, [.cells 109 159, .cells 61 97, .cells 61 97, .rows 98]⟩
def zalo : EndD (Wld × za × za) := ⟨(LQ.map (LQ.skip (LQ.const (.ptr 1 0)) (LQ.skip (LQ.const (.ptr 2 0)) (LQ.seq (LP.q zst) (LQ.seq (LP.q providerL) (LQ.seq (Par.q intP) (LQ.seq (Par.q intP) (LQ.seq (LP.q bankL) (LQ.seq (LP.q validatorsL) (LQ.seq (LP.q (a4L (a6L (LP.one intP)))) (LQ.skip (LQ.const (.own 3)) (LQ.seq (Par.q intP) (LQ.seq (Par.q zo) (LQ.seq (LP.q linksL) (LQ.seq (LP.q meterL) (LQ.seq (Par.q zey) (Par.q zmp)))))))))))))))) (fun x : Wld × za × Int × Int × Bank × Validators × (A4 (A6 Int)) × Int × (List Power) × Links × Meter × (List Asked) × (List Wait) => ((x.1, x.2.1, (⟨x.2.2.1, x.2.2.2.1, (⟨x.2.2.2.2.1, x.2.2.2.2.2.1, x.2.2.2.2.2.2.1, x.2.2.2.2.2.2.2.2.2.2.2.2, x.2.2.2.2.2.2.2.1⟩ : Stake), x.2.2.2.2.2.2.2.2.1, x.2.2.2.2.2.2.2.2.2.1, x.2.2.2.2.2.2.2.2.2.2.1, x.2.2.2.2.2.2.2.2.2.2.2.1⟩ : za)) : Wld × za × za)) (fun y => (y.1, y.2.1, y.2.2.Height, y.2.2.Time, y.2.2.Stake.Bank, y.2.2.Stake.Validators, y.2.2.Stake.Shares, y.2.2.Stake.Next, y.2.2.Set, y.2.2.Links, y.2.2.Meter, y.2.2.Queue, y.2.2.Stake.Waits)) (fun _ => rfl)), ⟨[2, 3], [.nilcell 3 63 98 (.waits [])]⟩, [.cells 109 159, .cells 61 97, .cells 61 97, .rows 98]⟩
def zan6 : St → Option LR := L1 77 10 1 zauk (.exit 0) zalo (fun s => zao s.1 s.2.1 s.2.2.1 s.2.2.2)
theorem zaul : zu (zaqt).env 1 (sub zais [0, 1, 0, 1, 1, 1, 1, 1]) zan6 :=
  zjd (A := zauj) zaqu Facts.mix trivial (k := zcw (sub zais [0, 1, 0, 1, 1, 1, 1, 1])) (by kernel_rfl) rfl (by rintro ⟨x0, x1, x2, x3⟩; kernel_rfl)
def zbk (x0 : (List Asked)) (x1 : Int) (x2 : Int) (x3 : Wld) (x4 : za) (x5 : za) (x6 : (List Asked)) : Tr (((List Asked) × Int × Int × Wld × za × za × (List Asked)) ⊕ (Wld × za × za × (List Asked))) :=
  (.ite (decide (x2 < x1))
    (.guard ((0 : Int) ≤ x2 ∧ x2 < ((Sl.len (.asked x0) : Nat) : Int))
    (.guard ((zff (x0.getD x2.toNat default).P).isSome = true)
    (.guard ((Sl.len (.asked x6) + Sl.len (.asked [(⟨(x0.getD x2.toNat default).C, ((zff (x0.getD x2.toNat default).P).getD default)⟩ : Asked)])) * 88 ≤ 140737488355328)
    (.leaf (.inl (x0, x1, IntKind.i64.wrap (x2 + 1), x3, x4, x5, x6 ++ [(⟨(x0.getD x2.toNat default).C, ((zff (x0.getD x2.toNat default).P).getD default)⟩ : Asked)]))))))
    (.leaf (.inr (x3, x4, x5, x6))))
def zd5 (x0 : (List Asked)) (x1 : Int) (x2 : Int) (x3 : Wld) (x4 : za) (x5 : za) (x6 : (List Asked)) : Option (Wld × za × za × (List Asked)) := zel (fun s : (List Asked) × Int × Int × Wld × za × za × (List Asked) => (zbk s.1 s.2.1 s.2.2.1 s.2.2.2.1 s.2.2.2.2.1 s.2.2.2.2.2.1 s.2.2.2.2.2.2).run) (x0, x1, x2, x3, x4, x5, x6)
def zaum : Ann := ⟨[], [], [], zaqs, []⟩
def zaun : EndD ((List Asked) × Int × Int × Wld × za × za × (List Asked)) := ⟨(LQ.map (LQ.skip (LQ.const (.ptr 1 0)) (LQ.skip (LQ.const (.ptr 2 0)) (LQ.skip (LQ.const (.own 3)) (LQ.seq (Par.q zey) (LQ.seq (Par.q intP) (LQ.seq (Par.q intP) (LQ.seq (LP.q zst) (LQ.seq (LP.q providerL) (LQ.seq (Par.q intP) (LQ.seq (Par.q intP) (LQ.seq (LP.q bankL) (LQ.seq (LP.q validatorsL) (LQ.seq (LP.q (a4L (a6L (LP.one intP)))) (LQ.skip (LQ.const (.own 4)) (LQ.seq (Par.q intP) (LQ.seq (Par.q zo) (LQ.seq (LP.q linksL) (LQ.seq (LP.q meterL) (LQ.seq (Par.q zey) (LQ.seq (Par.q zey) (Par.q zmp))))))))))))))))))))) (fun x : (List Asked) × Int × Int × Wld × za × Int × Int × Bank × Validators × (A4 (A6 Int)) × Int × (List Power) × Links × Meter × (List Asked) × (List Asked) × (List Wait) => ((x.1, x.2.1, x.2.2.1, x.2.2.2.1, x.2.2.2.2.1, (⟨x.2.2.2.2.2.1, x.2.2.2.2.2.2.1, (⟨x.2.2.2.2.2.2.2.1, x.2.2.2.2.2.2.2.2.1, x.2.2.2.2.2.2.2.2.2.1, x.2.2.2.2.2.2.2.2.2.2.2.2.2.2.2.2, x.2.2.2.2.2.2.2.2.2.2.1⟩ : Stake), x.2.2.2.2.2.2.2.2.2.2.2.1, x.2.2.2.2.2.2.2.2.2.2.2.2.1, x.2.2.2.2.2.2.2.2.2.2.2.2.2.1, x.2.2.2.2.2.2.2.2.2.2.2.2.2.2.1⟩ : za), x.2.2.2.2.2.2.2.2.2.2.2.2.2.2.2.1) : (List Asked) × Int × Int × Wld × za × za × (List Asked))) (fun y => (y.1, y.2.1, y.2.2.1, y.2.2.2.1, y.2.2.2.2.1, y.2.2.2.2.2.1.Height, y.2.2.2.2.2.1.Time, y.2.2.2.2.2.1.Stake.Bank, y.2.2.2.2.2.1.Stake.Validators, y.2.2.2.2.2.1.Stake.Shares, y.2.2.2.2.2.1.Stake.Next, y.2.2.2.2.2.1.Set, y.2.2.2.2.2.1.Links, y.2.2.2.2.2.1.Meter, y.2.2.2.2.2.1.Queue, y.2.2.2.2.2.2, y.2.2.2.2.2.1.Stake.Waits)) (fun _ => rfl)), ⟨[2, 3, 6, 58, 59, 60], [.nilcell 3 63 98 (.waits []), .nilown 6 101 (.asked []), .pub 58, .nilsl 58 (.asked [])]⟩, [.cells 109 159, .cells 61 97, .cells 61 97, .rows 101, .rows 98]⟩
def zalp : EndD (Wld × za × za × (List Asked)) := ⟨(LQ.map (LQ.skip (LQ.const (.ptr 1 0)) (LQ.skip (LQ.const (.ptr 2 0)) (LQ.skip (LQ.const (.own 3)) (LQ.seq (LP.q zst) (LQ.seq (LP.q providerL) (LQ.seq (Par.q intP) (LQ.seq (Par.q intP) (LQ.seq (LP.q bankL) (LQ.seq (LP.q validatorsL) (LQ.seq (LP.q (a4L (a6L (LP.one intP)))) (LQ.skip (LQ.const (.own 4)) (LQ.seq (Par.q intP) (LQ.seq (Par.q zo) (LQ.seq (LP.q linksL) (LQ.seq (LP.q meterL) (LQ.seq (Par.q zey) (LQ.seq (Par.q zey) (Par.q zmp)))))))))))))))))) (fun x : Wld × za × Int × Int × Bank × Validators × (A4 (A6 Int)) × Int × (List Power) × Links × Meter × (List Asked) × (List Asked) × (List Wait) => ((x.1, x.2.1, (⟨x.2.2.1, x.2.2.2.1, (⟨x.2.2.2.2.1, x.2.2.2.2.2.1, x.2.2.2.2.2.2.1, x.2.2.2.2.2.2.2.2.2.2.2.2.2, x.2.2.2.2.2.2.2.1⟩ : Stake), x.2.2.2.2.2.2.2.2.1, x.2.2.2.2.2.2.2.2.2.1, x.2.2.2.2.2.2.2.2.2.2.1, x.2.2.2.2.2.2.2.2.2.2.2.1⟩ : za), x.2.2.2.2.2.2.2.2.2.2.2.2.1) : Wld × za × za × (List Asked))) (fun y => (y.1, y.2.1, y.2.2.1.Height, y.2.2.1.Time, y.2.2.1.Stake.Bank, y.2.2.1.Stake.Validators, y.2.2.1.Stake.Shares, y.2.2.1.Stake.Next, y.2.2.1.Set, y.2.2.1.Links, y.2.2.1.Meter, y.2.2.1.Queue, y.2.2.2, y.2.2.1.Stake.Waits)) (fun _ => rfl)), ⟨[2, 3, 6], [.nilcell 3 63 98 (.waits []), .nilown 6 101 (.asked [])]⟩, [.cells 109 159, .cells 61 97, .cells 61 97, .rows 101, .rows 98]⟩
def zan7 : St → Option LR := L1 77 10 1 zaun (.exit 2) zalp (fun s => zbk s.1 s.2.1 s.2.2.1 s.2.2.2.1 s.2.2.2.2.1 s.2.2.2.2.2.1 s.2.2.2.2.2.2)
theorem zauo : zu (zaqt).env 1 (sub zais [0, 1, 0, 1, 1, 1, 1, 1, 1, 1]) zan7 :=
  zjd (A := zaum) zaqu Facts.mix trivial (k := zcw (sub zais [0, 1, 0, 1, 1, 1, 1, 1, 1, 1])) (by kernel_rfl) rfl (by rintro ⟨x0, x1, x2, x3, x4, x5, x6⟩; kernel_rfl)
def za3o : Ann := ⟨[([0, 1, 0, 1, 1, 1, 1, 1], zan6), ([0, 1, 0, 1, 1, 1, 1, 1, 1, 1], zan7)], [], [[1, 0, 1]], zaqs, []⟩
def zdz (a0 : Wld) : Tr (za × Wld) :=
  (.guard ((0 + Sl.len (.waits a0.p.Stake.Waits)) * 64 ≤ 140737488355328)
  (.bind (zb2 a0.p.Set) fun v1 =>
  (.bind (zd4 0 a0 (default : za) ({ (a0.p : za) with Set := v1 })) fun v2 =>
  (.bind (zd5 v2.2.2.Queue ((v2.2.2.Queue.length : Nat) : Int) 0 v2.1 v2.2.1 v2.2.2 []) fun v3 =>
  (.leaf ({ (v3.2.2.1 : za) with Queue := v3.2.2.2 }, v3.1))))))
def zb3 (a0 : Wld) : Option (za × Wld) := (zdz a0).run
def zaup : LQ (Wld) := (LQ.skip (LQ.const (.ptr 0 0)) (LP.q zst))
def zks : LQ (za × Wld) := (LQ.seq (Par.q (Par.ofLP providerL)) (LP.q zst))
def zgj : SpecT := zt 1 zaup 1 [.cells 109 159] (fun s => zdz s) default zks 1 [.cells 109 159]
theorem zkt : zg Tryz.prog 19 (zgj).spec :=
  zd (A := za3o) zaqu Facts.mix Tryz.func19 (c := zais) (by kernel_rfl) (Lc := 1) ⟨zaul, zauo, trivial⟩ zaup 1 10 [.cells 109 159] (fun s => zdz s) default zks 1 [.cells 109 159] [.pubN 0, .pubB 2] (by decide) (by kernel_rfl) (by rfl) (by decide) (by decide) (by rfl)
    (by rintro a0; kernel_rfl)
noncomputable def zaqv : Code := Tryz.f23.body.getD .skip
def zauq : List (List Nat) := [[0, 1, 4], [0, 1, 4, 18], [4], [4, 5], [4, 5], [4, 5, 6], [4, 5, 6, 39, 40, 41], [4, 5, 6, 39, 40, 41, 42], [4, 5, 6, 8, 39, 40, 41], [4, 5, 6, 39, 40, 41], [4, 5, 6, 39, 40, 41], [4, 5], [4]]
noncomputable def zaur : EnvT := ⟨Tryz.prog, zq [(46, zme), (48, zpq), (49, zrk)]⟩
theorem zaus : (zaur).Ok := zc ⟨zpp, zuc, zvs, trivial⟩
def zbl (x0 : (List Packet)) (x1 : Int) (x2 : Int) (x3 : Wld) (x4 : zb) (x5 : zb) (x6 : (List Packet)) : Tr (((List Packet) × Int × Int × Wld × zb × zb × (List Packet)) ⊕ (Wld × zb × zb × (List Packet))) :=
  (.ite (decide (x2 < x1))
    (.guard ((0 : Int) ≤ x2 ∧ x2 < ((Sl.len (.packets x0) : Nat) : Int))
    (.bind (zff (x0.getD x2.toNat default)) fun v1 =>
    (.guard ((Sl.len (.packets x6) + Sl.len (.packets [v1])) * 80 ≤ 140737488355328)
    (.leaf (.inl (x0, x1, IntKind.i64.wrap (x2 + 1), x3, x4, x5, x6 ++ [v1]))))))
    (.leaf (.inr (x3, x4, x5, x6))))
def zd6 (x0 : (List Packet)) (x1 : Int) (x2 : Int) (x3 : Wld) (x4 : zb) (x5 : zb) (x6 : (List Packet)) : Option (Wld × zb × zb × (List Packet)) := zel (fun s : (List Packet) × Int × Int × Wld × zb × zb × (List Packet) => (zbl s.1 s.2.1 s.2.2.1 s.2.2.2.1 s.2.2.2.2.1 s.2.2.2.2.2.1 s.2.2.2.2.2.2).run) (x0, x1, x2, x3, x4, x5, x6)
def zaut : Ann := ⟨[], [], [], zauq, []⟩
def zauu : EndD ((List Packet) × Int × Int × Wld × zb × zb × (List Packet)) := ⟨(LQ.map (LQ.skip (LQ.const (.ptr 1 0)) (LQ.skip (LQ.const (.ptr 2 0)) (LQ.skip (LQ.const (.own 3)) (LQ.seq (Par.q zdy) (LQ.seq (Par.q intP) (LQ.seq (Par.q intP) (LQ.seq (LP.q zst) (LQ.seq (LP.q z7) (LQ.seq (Par.q boolP) (LQ.seq (Par.q boolP) (LQ.seq (Par.q intP) (LQ.seq (Par.q intP) (LQ.seq (Par.q intP) (LQ.seq (Par.q zo) (LQ.seq (Par.q zdy) (LQ.skip (LQ.const (.own 4)) (LQ.seq (LP.q (a6L (LP.one boolP))) (LQ.seq (LP.q lineL) (LQ.seq (LP.q z73) (LQ.seq (Par.q zdy) (Par.q zxb))))))))))))))))))))) (fun x : (List Packet) × Int × Int × Wld × zb × Bool × Bool × Int × Int × Int × (List Power) × (List Packet) × (A6 Bool) × zes × z72 × (List Packet) × (List Ripe) => ((x.1, x.2.1, x.2.2.1, x.2.2.2.1, x.2.2.2.2.1, (⟨x.2.2.2.2.2.1, x.2.2.2.2.2.2.1, x.2.2.2.2.2.2.2.1, x.2.2.2.2.2.2.2.2.1, x.2.2.2.2.2.2.2.2.2.1, x.2.2.2.2.2.2.2.2.2.2.1, x.2.2.2.2.2.2.2.2.2.2.2.1, x.2.2.2.2.2.2.2.2.2.2.2.2.2.2.2.2, x.2.2.2.2.2.2.2.2.2.2.2.2.1, x.2.2.2.2.2.2.2.2.2.2.2.2.2.1, x.2.2.2.2.2.2.2.2.2.2.2.2.2.2.1⟩ : zb), x.2.2.2.2.2.2.2.2.2.2.2.2.2.2.2.1) : (List Packet) × Int × Int × Wld × zb × zb × (List Packet))) (fun y => (y.1, y.2.1, y.2.2.1, y.2.2.2.1, y.2.2.2.2.1, y.2.2.2.2.2.1.On, y.2.2.2.2.2.1.Gone, y.2.2.2.2.2.1.Height, y.2.2.2.2.2.1.Time, y.2.2.2.2.2.1.Id, y.2.2.2.2.2.1.Set, y.2.2.2.2.2.1.Pending, y.2.2.2.2.2.1.Flags, y.2.2.2.2.2.1.Out, y.2.2.2.2.2.1.Seen, y.2.2.2.2.2.2, y.2.2.2.2.2.1.Ripes)) (fun _ => rfl)), ⟨[4, 5, 6, 39, 40, 41], [.nilcell 5 7 103 (.ripes []), .nilown 6 79 (.packets []), .pub 39, .nilsl 39 (.packets [])]⟩, [.cells 109 159, .cells 71 22, .cells 71 22, .rows 79, .rows 103]⟩
def zalq : EndD (Wld × zb × zb × (List Packet)) := ⟨(LQ.map (LQ.skip (LQ.const (.ptr 1 0)) (LQ.skip (LQ.const (.ptr 2 0)) (LQ.skip (LQ.const (.own 3)) (LQ.seq (LP.q zst) (LQ.seq (LP.q z7) (LQ.seq (Par.q boolP) (LQ.seq (Par.q boolP) (LQ.seq (Par.q intP) (LQ.seq (Par.q intP) (LQ.seq (Par.q intP) (LQ.seq (Par.q zo) (LQ.seq (Par.q zdy) (LQ.skip (LQ.const (.own 4)) (LQ.seq (LP.q (a6L (LP.one boolP))) (LQ.seq (LP.q lineL) (LQ.seq (LP.q z73) (LQ.seq (Par.q zdy) (Par.q zxb)))))))))))))))))) (fun x : Wld × zb × Bool × Bool × Int × Int × Int × (List Power) × (List Packet) × (A6 Bool) × zes × z72 × (List Packet) × (List Ripe) => ((x.1, x.2.1, (⟨x.2.2.1, x.2.2.2.1, x.2.2.2.2.1, x.2.2.2.2.2.1, x.2.2.2.2.2.2.1, x.2.2.2.2.2.2.2.1, x.2.2.2.2.2.2.2.2.1, x.2.2.2.2.2.2.2.2.2.2.2.2.2, x.2.2.2.2.2.2.2.2.2.1, x.2.2.2.2.2.2.2.2.2.2.1, x.2.2.2.2.2.2.2.2.2.2.2.1⟩ : zb), x.2.2.2.2.2.2.2.2.2.2.2.2.1) : Wld × zb × zb × (List Packet))) (fun y => (y.1, y.2.1, y.2.2.1.On, y.2.2.1.Gone, y.2.2.1.Height, y.2.2.1.Time, y.2.2.1.Id, y.2.2.1.Set, y.2.2.1.Pending, y.2.2.1.Flags, y.2.2.1.Out, y.2.2.1.Seen, y.2.2.2, y.2.2.1.Ripes)) (fun _ => rfl)), ⟨[4, 5, 6], [.nilcell 5 7 103 (.ripes []), .nilown 6 79 (.packets [])]⟩, [.cells 109 159, .cells 71 22, .cells 71 22, .rows 79, .rows 103]⟩
def zan8 : St → Option LR := L1 54 10 1 zauu (.exit 0) zalq (fun s => zbl s.1 s.2.1 s.2.2.1 s.2.2.2.1 s.2.2.2.2.1 s.2.2.2.2.2.1 s.2.2.2.2.2.2)
theorem zauv : zu (zaur).env 1 (sub zaqv [0, 1, 0, 1, 1, 1, 1, 1]) zan8 :=
  zjd (A := zaut) zaus Facts.mix trivial (k := zcw (sub zaqv [0, 1, 0, 1, 1, 1, 1, 1])) (by kernel_rfl) rfl (by rintro ⟨x0, x1, x2, x3, x4, x5, x6⟩; kernel_rfl)
def za3p : Ann := ⟨[([0, 1, 0, 1, 1, 1, 1, 1], zan8)], [], [], zauq, []⟩
def zd0 (a0 : Int) (a1 : Wld) : Tr (zb × Wld) :=
  (.ite ((false || (decide (a0 < 0))) || (decide (a0 ≥ 2)))
    (.leaf ((default : zb), a1))
    (.guard ((0 : Int) ≤ a0 ∧ (a0 : Int) < 2)
    (.guard ((zb2 (a1.consumers.Set.get a0)).isSome = true)
    (.guard ((zbo (ze a1.consumers a0).Out).isSome = true)
    (.guard ((0 + Sl.len (.ripes (a1.consumers.Ripes.get a0))) * 16 ≤ 140737488355328)
    (.bind (zd6 (a1.consumers.Pending.get a0) (((a1.consumers.Pending.get a0).length : Nat) : Int) 0 a1 (default : zb) ({ ((ze a1.consumers a0) : zb) with Set := ((zb2 (a1.consumers.Set.get a0)).getD default), Out := ((zbo (ze a1.consumers a0).Out).getD default) }) []) fun v2 =>
    (.leaf ({ (v2.2.2.1 : zb) with Pending := v2.2.2.2 }, v2.1))))))))
def zbc (a0 : Int) (a1 : Wld) : Option (zb × Wld) := (zd0 a0 a1).run
def zauw : LQ (Int × Wld) := (LQ.skip (LQ.const (.ptr 0 0)) (LQ.seq (Par.q intP) (LP.q zst)))
def zku : LQ (zb × Wld) := (LQ.seq (Par.q (Par.ofLP z7)) (LP.q zst))
def zgk : SpecT := zt 1 zauw 2 [.cells 109 159] (fun s => zd0 s.1 s.2) default zku 1 [.cells 109 159]
theorem zkv : zg Tryz.prog 23 (zgk).spec :=
  zd (A := za3p) zaus Facts.mix Tryz.func23 (c := zaqv) (by kernel_rfl) (Lc := 1) ⟨zauv, trivial⟩ zauw 2 10 [.cells 109 159] (fun s => zd0 s.1 s.2) default zku 1 [.cells 109 159] [.pubN 0, .pubB 4] (by decide) (by kernel_rfl) (by rfl) (by decide) (by decide) (by rfl)
    (by rintro ⟨a0, a1⟩; kernel_rfl)
noncomputable def za3q : Code := Tryz.f105.body.getD .skip
def za3r : List (List Nat) := [[1, 2], [1, 2, 5], [1, 2, 5, 11], [1, 5], [5, 19], [4], [5], [4]]
noncomputable def za3s : EnvT := ⟨Tryz.prog, zq [(28, zl3)]⟩
theorem za3t : (za3s).Ok := zc ⟨zo9, trivial⟩
def za3u : Ann := ⟨[], [], [], za3r, []⟩
def zq1 (a0 : zes) (a1 : Bool) : Tr (ByteArray) :=
  (.ite (decide (a0.Got < ((a0.Said.length : Nat) : Int)))
    (.guard ((0 : Int) ≤ a0.Got ∧ a0.Got < ((Sl.len (.strs a0.Said) : Nat) : Int))
    (.ite (!a1)
      (.leaf (a0.Said.getD a0.Got.toNat .empty))
      (.bind (zbi (⟨3, 1, 0, IntKind.i64.wrap (1 + (((a0.Said.getD a0.Got.toNat .empty).size : Nat) : Int)), [], []⟩ : Packet)) fun v1 =>
      (.leaf v1.1))))
    (.ite (!a1)
      (.leaf (⟨#[]⟩ : ByteArray))
      (.bind (zbi (⟨3, 1, 0, IntKind.i64.wrap (1 + (((⟨#[]⟩ : ByteArray).size : Nat) : Int)), [], []⟩ : Packet)) fun v2 =>
      (.leaf v2.1))))
def zol (a0 : zes) (a1 : Bool) : Option (ByteArray) := (zq1 a0 a1).run
def zaux : LQ (zes × Bool) := (LQ.seq (Par.q (Par.ofLP lineL)) (Par.q boolP))
def z0o : LQ (ByteArray) := (Par.q strP)
def z2g : SpecT := zt 0 zaux 2 [] (fun s => zq1 s.1 s.2) default z0o 1 []
theorem z84 : zg Tryz.prog 105 (z2g).spec :=
  zd (A := za3u) za3t Facts.mix Tryz.func105 (c := za3q) (by kernel_rfl) (Lc := 0) trivial zaux 2 3 [] (fun s => zq1 s.1 s.2) default z0o 1 [] [] (by decide) (by kernel_rfl) (by rfl) (by decide) (by decide) (by rfl)
    (by rintro ⟨a0, a1⟩; kernel_rfl)
noncomputable def zaqw : Code := Tryz.f64.body.getD .skip
def zauy : List (List Nat) := [[0, 2], [0, 2, 3, 4, 5], [0, 2, 3, 4, 5, 21], [2], [0, 2, 3, 4], [0, 2, 3, 4, 28], [0, 2, 3, 4, 28, 29], [0, 2, 3, 4, 6, 28], [0, 2, 3, 4, 28], [0, 2, 3, 4, 28], [2]]
noncomputable def zauz : EnvT := ⟨Tryz.prog, zq [(81, zxz)]⟩
theorem zau0 : (zauz).Ok := zc ⟨z4r, trivial⟩
def zaw (x0 : (List Int)) (x1 : Int) (x2 : Wld) (x3 : Reply) (x4 : za) : Tr (((List Int) × Int × Wld × Reply × za) ⊕ ((List Int) × Wld × Reply)) :=
  (.ite (decide (x1 < 2))
    (.guard ((0 : Int) ≤ x1 ∧ (x1 : Int) < 2)
    (.guard ((0 : Int) ≤ x1 ∧ (x1 : Int) < 2)
    (.guard ((0 : Int) ≤ x1 ∧ (x1 : Int) < 2)
    (.guard ((0 : Int) ≤ 0 ∧ (0 : Int) < 2)
    (.leaf (.inl (x0, IntKind.i64.wrap (x1 + 1), { (x2 : Wld) with heads := { (x2.heads : zw0) with PHeight := (x2.heads.PHeight.set x1 x4.Height), PTime := (x2.heads.PTime.set x1 x4.Time), PSaid := (x2.heads.PSaid.set x1 (((x4.Links.Said.get x1).length : Nat) : Int)), PGot := (x2.heads.PGot.set x1 (x2.consumers.Got.get x1)) } }, x3, x4)))))))
    (.leaf (.inr (x0, x2, x3))))
def zeq (x0 : (List Int)) (x1 : Int) (x2 : Wld) (x3 : Reply) (x4 : za) : Option ((List Int) × Wld × Reply) := zel (fun s : (List Int) × Int × Wld × Reply × za => (zaw s.1 s.2.1 s.2.2.1 s.2.2.2.1 s.2.2.2.2).run) (x0, x1, x2, x3, x4)
def zau1 : Ann := ⟨[], [], [], zauy, []⟩
def zau2 : EndD ((List Int) × Int × Wld × Reply × za) := ⟨(LQ.skip (LQ.const (.ptr 0 0)) (LQ.skip (LQ.const (.ptr 1 0)) (LQ.skip (LQ.const (.ptr 2 0)) (LQ.seq (Par.q zgz) (LQ.seq (Par.q intP) (LQ.seq (LP.q zst) (LQ.seq (LP.q zyy) (LP.q providerL)))))))), ⟨[0, 2, 3, 4, 28], [.pub 4, .nilsl 4 (.ints [])]⟩, [.cells 109 159, .cells 29 2, .cells 61 97]⟩
def zalr : EndD ((List Int) × Wld × Reply) := ⟨(LQ.skip (LQ.const (.ptr 1 0)) (LQ.seq (Par.q zgz) (LQ.seq (LP.q zst) (LP.q zyy)))), ⟨[2, 4], [.pub 4, .nilsl 4 (.ints [])]⟩, [.cells 109 159, .cells 29 2]⟩
def zan9 : St → Option LR := L1 61 5 1 zau2 (.exit 0) zalr (fun s => zaw s.1 s.2.1 s.2.2.1 s.2.2.2.1 s.2.2.2.2)
theorem zau3 : zu (zauz).env 1 (sub zaqw [0, 1, 0, 1, 1, 1, 1]) zan9 :=
  zjd (A := zau1) zau0 Facts.mix trivial (k := zcw (sub zaqw [0, 1, 0, 1, 1, 1, 1])) (by kernel_rfl) rfl (by rintro ⟨x0, x1, x2, x3, x4⟩; kernel_rfl)
def za3v : Ann := ⟨[([0, 1, 0, 1, 1, 1, 1], zan9)], [], [], zauy, []⟩
def zeh (a0 : Wld) : Tr (Reply × Wld) :=
  (.guard ((zcu a0.p a0.clock).isSome = true)
  (.ite (((zcu a0.p a0.clock).getD default).2.2 != 0)
    (.leaf ((⟨((zcu a0.p a0.clock).getD default).2.2, 0⟩ : Reply), a0))
    (.bind (zeq ((zcu a0.p a0.clock).getD default).2.1 0 ({ (a0 : Wld) with p := ((zcu a0.p a0.clock).getD default).1 }) (⟨0, 0⟩ : Reply) ((zcu a0.p a0.clock).getD default).1) fun v1 =>
    (.leaf ((⟨0, ((v1.1.length : Nat) : Int)⟩ : Reply), v1.2.1)))))
def zgl (a0 : Wld) : Option (Reply × Wld) := (zeh a0).run
def zau4 : LQ (Wld) := (LQ.skip (LQ.const (.ptr 0 0)) (LP.q zst))
def zk8 : LQ (Reply × Wld) := (LQ.seq (Par.q (Par.ofLP zyy)) (LP.q zst))
def zm0 : SpecT := zt 1 zau4 1 [.cells 109 159] (fun s => zeh s) default zk8 1 [.cells 109 159]
theorem zuj : zg Tryz.prog 64 (zm0).spec :=
  zd (A := za3v) zau0 Facts.mix Tryz.func64 (c := zaqw) (by kernel_rfl) (Lc := 1) ⟨zau3, trivial⟩ zau4 1 5 [.cells 109 159] (fun s => zeh s) default zk8 1 [.cells 109 159] [.pubN 0] (by decide) (by kernel_rfl) (by rfl) (by decide) (by decide) (by rfl)
    (by rintro a0; kernel_rfl)
noncomputable def za3w : Code := Tryz.f85.body.getD .skip
def za3x : List (List Nat) := [[0, 3, 4], [0, 3, 4, 5, 6], [0, 3, 4, 5, 6, 7, 8], [0, 3, 4, 5, 6, 7, 8, 37], [0, 3, 4, 5, 6, 7, 8], [0, 3, 4, 5, 6, 7, 8, 9], [0, 3, 4, 5, 6, 7, 9, 10], [0, 3, 4, 5, 6, 7, 9, 10, 66], [4], [0, 3, 4, 5, 6, 7, 9, 70], [0, 4, 5, 7, 11, 12], [0, 4, 5, 7, 11, 12, 83], [4], [4, 7], [4], [4, 5, 6, 7, 10, 13], [4, 5, 6, 7, 10, 13, 106], [4], [4, 7], [4]]
noncomputable def za3y : EnvT := ⟨Tryz.prog, zq [(105, z2g), (106, zxn), (107, zvj), (108, zvd)]⟩
theorem za3z : (za3y).Ok := zc ⟨z84, z4f, z2q, z2o, trivial⟩
def za38 : Ann := ⟨[], [], [], za3x, []⟩
def zei (a0 : Deed) (a1 : Wld) : Tr (Reply × Wld) :=
  (.guard ((0 : Int) ≤ a0.C ∧ (a0.C : Int) < 2)
  (.guard ((0 : Int) ≤ a0.C ∧ (a0.C : Int) < 2)
  (.ite (a0.Back)
    (.bind (zol (ze a1.consumers a0.C).Out a0.Forged) fun v1 =>
    (.guard ((zh (ze a1.consumers a0.C).Out (IntKind.i64.wrap ((a1.consumers.Got.get a0.C) + 1)) v1 (a1.p.Links.SSaid.get a0.C) a1.clock).isSome = true)
    (.ite (((zh (ze a1.consumers a0.C).Out (IntKind.i64.wrap ((a1.consumers.Got.get a0.C) + 1)) v1 (a1.p.Links.SSaid.get a0.C) a1.clock).getD default).2 != 0)
      (.leaf ((⟨((zh (ze a1.consumers a0.C).Out (IntKind.i64.wrap ((a1.consumers.Got.get a0.C) + 1)) v1 (a1.p.Links.SSaid.get a0.C) a1.clock).getD default).2, 0⟩ : Reply), a1))
      (.ite (a0.Back)
        (.guard ((zaz a1.p a0.C v1).isSome = true)
        (.ite (((zaz a1.p a0.C v1).getD default).2 != 0)
          (.leaf ((⟨((zaz a1.p a0.C v1).getD default).2, 0⟩ : Reply), a1))
          (.leaf ((⟨0, ((zh (ze a1.consumers a0.C).Out (IntKind.i64.wrap ((a1.consumers.Got.get a0.C) + 1)) v1 (a1.p.Links.SSaid.get a0.C) a1.clock).getD default).1.Got⟩ : Reply), { (a1 : Wld) with p := ((zaz a1.p a0.C v1).getD default).1, consumers := { (a1.consumers : zcp) with Said := (a1.consumers.Said.set a0.C ((zh (ze a1.consumers a0.C).Out (IntKind.i64.wrap ((a1.consumers.Got.get a0.C) + 1)) v1 (a1.p.Links.SSaid.get a0.C) a1.clock).getD default).1.Said), Due := (a1.consumers.Due.set a0.C ((zh (ze a1.consumers a0.C).Out (IntKind.i64.wrap ((a1.consumers.Got.get a0.C) + 1)) v1 (a1.p.Links.SSaid.get a0.C) a1.clock).getD default).1.Due), Got := (a1.consumers.Got.set a0.C ((zh (ze a1.consumers a0.C).Out (IntKind.i64.wrap ((a1.consumers.Got.get a0.C) + 1)) v1 (a1.p.Links.SSaid.get a0.C) a1.clock).getD default).1.Got), Closed := (a1.consumers.Closed.set a0.C ((zh (ze a1.consumers a0.C).Out (IntKind.i64.wrap ((a1.consumers.Got.get a0.C) + 1)) v1 (a1.p.Links.SSaid.get a0.C) a1.clock).getD default).1.Closed) } }))))
        (.bind (zi4 (ze a1.consumers a0.C) v1) fun v2 =>
        (.ite (v2.2 != 0)
          (.leaf ((⟨v2.2, 0⟩ : Reply), a1))
          (.leaf ((⟨0, ((zh (ze a1.consumers a0.C).Out (IntKind.i64.wrap ((a1.consumers.Got.get a0.C) + 1)) v1 (a1.p.Links.SSaid.get a0.C) a1.clock).getD default).1.Got⟩ : Reply), { (a1 : Wld) with p := { (a1.p : za) with Links := { (a1.p.Links : Links) with Said := (a1.p.Links.Said.set a0.C ((zh (ze a1.consumers a0.C).Out (IntKind.i64.wrap ((a1.consumers.Got.get a0.C) + 1)) v1 (a1.p.Links.SSaid.get a0.C) a1.clock).getD default).1.Said), Due := (a1.p.Links.Due.set a0.C ((zh (ze a1.consumers a0.C).Out (IntKind.i64.wrap ((a1.consumers.Got.get a0.C) + 1)) v1 (a1.p.Links.SSaid.get a0.C) a1.clock).getD default).1.Due), Got := (a1.p.Links.Got.set a0.C ((zh (ze a1.consumers a0.C).Out (IntKind.i64.wrap ((a1.consumers.Got.get a0.C) + 1)) v1 (a1.p.Links.SSaid.get a0.C) a1.clock).getD default).1.Got), Closed := (a1.p.Links.Closed.set a0.C ((zh (ze a1.consumers a0.C).Out (IntKind.i64.wrap ((a1.consumers.Got.get a0.C) + 1)) v1 (a1.p.Links.SSaid.get a0.C) a1.clock).getD default).1.Closed) } }, consumers := (zrn a1.consumers a0.C v2.1) }))))))))
    (.bind (zol (zv a1.p.Links a0.C).Out a0.Forged) fun v3 =>
    (.guard ((zh (zv a1.p.Links a0.C).Out (IntKind.i64.wrap ((a1.p.Links.Got.get a0.C) + 1)) v3 (a1.consumers.SSaid.get a0.C) a1.clock).isSome = true)
    (.ite (((zh (zv a1.p.Links a0.C).Out (IntKind.i64.wrap ((a1.p.Links.Got.get a0.C) + 1)) v3 (a1.consumers.SSaid.get a0.C) a1.clock).getD default).2 != 0)
      (.leaf ((⟨((zh (zv a1.p.Links a0.C).Out (IntKind.i64.wrap ((a1.p.Links.Got.get a0.C) + 1)) v3 (a1.consumers.SSaid.get a0.C) a1.clock).getD default).2, 0⟩ : Reply), a1))
      (.ite (a0.Back)
        (.guard ((zaz a1.p a0.C v3).isSome = true)
        (.ite (((zaz a1.p a0.C v3).getD default).2 != 0)
          (.leaf ((⟨((zaz a1.p a0.C v3).getD default).2, 0⟩ : Reply), a1))
          (.leaf ((⟨0, ((zh (zv a1.p.Links a0.C).Out (IntKind.i64.wrap ((a1.p.Links.Got.get a0.C) + 1)) v3 (a1.consumers.SSaid.get a0.C) a1.clock).getD default).1.Got⟩ : Reply), { (a1 : Wld) with p := ((zaz a1.p a0.C v3).getD default).1, consumers := { (a1.consumers : zcp) with Said := (a1.consumers.Said.set a0.C ((zh (zv a1.p.Links a0.C).Out (IntKind.i64.wrap ((a1.p.Links.Got.get a0.C) + 1)) v3 (a1.consumers.SSaid.get a0.C) a1.clock).getD default).1.Said), Due := (a1.consumers.Due.set a0.C ((zh (zv a1.p.Links a0.C).Out (IntKind.i64.wrap ((a1.p.Links.Got.get a0.C) + 1)) v3 (a1.consumers.SSaid.get a0.C) a1.clock).getD default).1.Due), Got := (a1.consumers.Got.set a0.C ((zh (zv a1.p.Links a0.C).Out (IntKind.i64.wrap ((a1.p.Links.Got.get a0.C) + 1)) v3 (a1.consumers.SSaid.get a0.C) a1.clock).getD default).1.Got), Closed := (a1.consumers.Closed.set a0.C ((zh (zv a1.p.Links a0.C).Out (IntKind.i64.wrap ((a1.p.Links.Got.get a0.C) + 1)) v3 (a1.consumers.SSaid.get a0.C) a1.clock).getD default).1.Closed) } }))))
        (.bind (zi4 (ze a1.consumers a0.C) v3) fun v4 =>
        (.ite (v4.2 != 0)
          (.leaf ((⟨v4.2, 0⟩ : Reply), a1))
          (.leaf ((⟨0, ((zh (zv a1.p.Links a0.C).Out (IntKind.i64.wrap ((a1.p.Links.Got.get a0.C) + 1)) v3 (a1.consumers.SSaid.get a0.C) a1.clock).getD default).1.Got⟩ : Reply), { (a1 : Wld) with p := { (a1.p : za) with Links := { (a1.p.Links : Links) with Said := (a1.p.Links.Said.set a0.C ((zh (zv a1.p.Links a0.C).Out (IntKind.i64.wrap ((a1.p.Links.Got.get a0.C) + 1)) v3 (a1.consumers.SSaid.get a0.C) a1.clock).getD default).1.Said), Due := (a1.p.Links.Due.set a0.C ((zh (zv a1.p.Links a0.C).Out (IntKind.i64.wrap ((a1.p.Links.Got.get a0.C) + 1)) v3 (a1.consumers.SSaid.get a0.C) a1.clock).getD default).1.Due), Got := (a1.p.Links.Got.set a0.C ((zh (zv a1.p.Links a0.C).Out (IntKind.i64.wrap ((a1.p.Links.Got.get a0.C) + 1)) v3 (a1.consumers.SSaid.get a0.C) a1.clock).getD default).1.Got), Closed := (a1.p.Links.Closed.set a0.C ((zh (zv a1.p.Links a0.C).Out (IntKind.i64.wrap ((a1.p.Links.Got.get a0.C) + 1)) v3 (a1.consumers.SSaid.get a0.C) a1.clock).getD default).1.Closed) } }, consumers := (zrn a1.consumers a0.C v4.1) })))))))))))
def zgm (a0 : Deed) (a1 : Wld) : Option (Reply × Wld) := (zei a0 a1).run
def zau5 : LQ (Deed × Wld) := (LQ.skip (LQ.const (.ptr 0 0)) (LQ.seq (Par.q (Par.ofLP deedL)) (LP.q zst)))
def zk9 : LQ (Reply × Wld) := (LQ.seq (Par.q (Par.ofLP zyy)) (LP.q zst))
def zm1 : SpecT := zt 1 zau5 2 [.cells 109 159] (fun s => zei s.1 s.2) default zk9 1 [.cells 109 159]
theorem zuk : zg Tryz.prog 85 (zm1).spec :=
  zd (A := za38) za3z Facts.mix Tryz.func85 (c := za3w) (by kernel_rfl) (Lc := 1) trivial zau5 2 7 [.cells 109 159] (fun s => zei s.1 s.2) default zk9 1 [.cells 109 159] [.pubN 0] (by decide) (by kernel_rfl) (by rfl) (by decide) (by decide) (by rfl)
    (by rintro ⟨a0, a1⟩; kernel_rfl)
noncomputable def za4c : Code := Tryz.f86.body.getD .skip
def za4d : List (List Nat) := [[0, 3, 4], [0, 3, 4, 5, 6], [0, 3, 4, 5, 7, 8], [0, 3, 4, 5, 7, 8, 33], [0, 3, 4, 5, 7, 8], [0, 3, 4, 5, 10], [0, 3, 4, 5, 10, 54], [4], [4, 5], [4], [4]]
noncomputable def za4e : EnvT := ⟨Tryz.prog, zq [(109, zz9), (110, zsh), (111, zse)]⟩
theorem za4f : (za4e).Ok := zc ⟨z6j, z0n, z0l, trivial⟩
def za4g : Ann := ⟨[], [], [], za4d, []⟩
def zex (a0 : Deed) (a1 : Wld) : Tr (Reply × Wld) :=
  (.guard ((0 : Int) ≤ a0.C ∧ (a0.C : Int) < 2)
  (.guard ((0 : Int) ≤ a0.C ∧ (a0.C : Int) < 2)
  (.ite (a0.Back)
    (.bind (zlz (ze a1.consumers a0.C).Out a0.N (a1.consumers.STime.get a0.C) (a1.consumers.SGot.get a0.C)) fun v1 =>
    (.ite (v1.2 != 0)
      (.leaf ((⟨v1.2, 0⟩ : Reply), a1))
      (.guard ((zdd a1.p a0.C).isSome = true)
      (.bind (zgs (ze a1.consumers a0.C)) fun v2 =>
      (.leaf ((⟨0, 0⟩ : Reply), { (a1 : Wld) with p := ((zdd a1.p a0.C).getD default), consumers := (zrn a1.consumers a0.C v2) }))))))
    (.bind (zlz (zv a1.p.Links a0.C).Out a0.N (a1.p.Links.STime.get a0.C) (a1.p.Links.SGot.get a0.C)) fun v3 =>
    (.ite (v3.2 != 0)
      (.leaf ((⟨v3.2, 0⟩ : Reply), a1))
      (.guard ((zdd a1.p a0.C).isSome = true)
      (.bind (zgs (ze a1.consumers a0.C)) fun v4 =>
      (.leaf ((⟨0, 0⟩ : Reply), { (a1 : Wld) with p := ((zdd a1.p a0.C).getD default), consumers := (zrn a1.consumers a0.C v4) })))))))))
def zg6 (a0 : Deed) (a1 : Wld) : Option (Reply × Wld) := (zex a0 a1).run
def zau6 : LQ (Deed × Wld) := (LQ.skip (LQ.const (.ptr 0 0)) (LQ.seq (Par.q (Par.ofLP deedL)) (LP.q zst)))
def zm2 : LQ (Reply × Wld) := (LQ.seq (Par.q (Par.ofLP zyy)) (LP.q zst))
def znr : SpecT := zt 1 zau6 2 [.cells 109 159] (fun s => zex s.1 s.2) default zm2 1 [.cells 109 159]
theorem zvt : zg Tryz.prog 86 (znr).spec :=
  zd (A := za4g) za4f Facts.mix Tryz.func86 (c := za4c) (by kernel_rfl) (Lc := 1) trivial zau6 2 8 [.cells 109 159] (fun s => zex s.1 s.2) default zm2 1 [.cells 109 159] [.pubN 0] (by decide) (by kernel_rfl) (by rfl) (by decide) (by decide) (by rfl)
    (by rintro ⟨a0, a1⟩; kernel_rfl)
noncomputable def za4h : Code := Tryz.f65.body.getD .skip
def za4i : List (List Nat) := [[0, 3, 4], [0, 3, 4, 17], [4], [0, 3, 4, 26], [4], [0, 3, 4, 5], [0, 3, 4, 5, 43], [4], [0, 3, 4, 5, 6], [0, 3, 4, 5, 6, 7], [0, 3, 4, 5, 6, 7, 49], [0, 3, 4, 5, 6, 7, 49, 50], [0, 3, 4, 5, 8, 9], [0, 3, 4, 5, 8, 9, 63], [4], [0, 3, 4, 8], [4, 8], [4], [0, 3, 4, 5, 6, 7, 49, 91], [0, 3, 4, 5, 6, 7], [0, 3, 4, 5, 6, 7, 103], [4, 5, 6, 7], [0, 3, 4, 5, 6, 7, 49, 130], [0, 3, 4, 5, 6, 7, 133], [4, 5, 6, 7], [4, 5, 6, 7], [0, 3, 4, 5, 6, 7, 49, 159], [4], [0, 3, 4, 5, 6, 7, 49, 164], [4], [0, 3, 4, 5, 6, 7, 49, 169], [4, 5, 6, 7], [0, 3, 4, 5, 6, 7, 182], [4, 5, 6, 7], [4, 5, 6, 7, 198], [4], [4], [4]]
noncomputable def za4j : EnvT := ⟨Tryz.prog, zq [(82, zt5), (83, zt1), (84, zxv), (85, zm1), (86, znr), (87, zvg), (88, zsd)]⟩
theorem za4k : (za4j).Ok := zc ⟨z1f, z1e, z4n, zuk, zvt, z2p, z0k, trivial⟩
def za4l : Ann := ⟨[], [], [], za4i, []⟩
def zej (a0 : Deed) (a1 : Wld) : Tr (Reply × Wld) :=
  (.ite ((decide (a0.Kind < 4)) || (decide (a0.Kind > 12)))
    (.leaf ((⟨3, 0⟩ : Reply), a1))
    (.ite ((decide (a0.C < 0)) || (decide (a0.C ≥ 2)))
      (.leaf ((⟨4, 0⟩ : Reply), a1))
      (.guard ((0 : Int) ≤ a0.C ∧ (a0.C : Int) < 2)
      (.ite ((a0.Kind != 4) && (!(a1.consumers.On.get a0.C)))
        (.leaf ((⟨4, 0⟩ : Reply), a1))
        (.ite (a0.Kind == 4)
          (.guard ((zai a1.p a0.C).isSome = true)
          (.ite (((zai a1.p a0.C).getD default).2 != 0)
            (.leaf ((⟨((zai a1.p a0.C).getD default).2, 0⟩ : Reply), a1))
            (.guard ((zho ((zai a1.p a0.C).getD default).1.Set ((zai a1.p a0.C).getD default).1.Height a1.clock).isSome = true)
            (.guard ((0 : Int) ≤ a0.C ∧ (a0.C : Int) < 2)
            (.leaf ((⟨0, ((zai a1.p a0.C).getD default).1.Height⟩ : Reply), (⟨a1.clock, ((zai a1.p a0.C).getD default).1, (zrn a1.consumers a0.C ((zho ((zai a1.p a0.C).getD default).1.Set ((zai a1.p a0.C).getD default).1.Height a1.clock).getD default)), (⟨(a1.heads.PHeight.set a0.C 0), (a1.heads.PTime.set a0.C 0), (a1.heads.PSaid.set a0.C 0), (a1.heads.PGot.set a0.C 0), (a1.heads.CHeight.set a0.C 0), (a1.heads.CTime.set a0.C 0), (a1.heads.CSaid.set a0.C 0), (a1.heads.CGot.set a0.C 0)⟩ : zw0), a1.deeds⟩ : Wld)))))))
          (.ite (a0.Kind == 7)
            (.guard ((zw (ze a1.consumers a0.C) a1.clock).isSome = true)
            (.ite (((zw (ze a1.consumers a0.C) a1.clock).getD default).2 == 0)
              (.guard ((0 : Int) ≤ a0.C ∧ (a0.C : Int) < 2)
              (.guard ((0 : Int) ≤ a0.C ∧ (a0.C : Int) < 2)
              (.guard ((0 : Int) ≤ 1 ∧ (1 : Int) < 2)
              (.ite (((zw (ze a1.consumers a0.C) a1.clock).getD default).2 != 0)
                (.leaf ((⟨((zw (ze a1.consumers a0.C) a1.clock).getD default).2, 0⟩ : Reply), { (a1 : Wld) with heads := { (a1.heads : zw0) with CHeight := (a1.heads.CHeight.set a0.C ((zw (ze a1.consumers a0.C) a1.clock).getD default).1.Height), CTime := (a1.heads.CTime.set a0.C ((zw (ze a1.consumers a0.C) a1.clock).getD default).1.Time), CSaid := (a1.heads.CSaid.set a0.C ((((zw (ze a1.consumers a0.C) a1.clock).getD default).1.Out.Said.length : Nat) : Int)), CGot := (a1.heads.CGot.set a0.C (a1.p.Links.Got.get a0.C)) } }))
                (.leaf ((⟨0, 0⟩ : Reply), { (a1 : Wld) with consumers := (zrn a1.consumers a0.C ((zw (ze a1.consumers a0.C) a1.clock).getD default).1), heads := { (a1.heads : zw0) with CHeight := (a1.heads.CHeight.set a0.C ((zw (ze a1.consumers a0.C) a1.clock).getD default).1.Height), CTime := (a1.heads.CTime.set a0.C ((zw (ze a1.consumers a0.C) a1.clock).getD default).1.Time), CSaid := (a1.heads.CSaid.set a0.C ((((zw (ze a1.consumers a0.C) a1.clock).getD default).1.Out.Said.length : Nat) : Int)), CGot := (a1.heads.CGot.set a0.C (a1.p.Links.Got.get a0.C)) } }))))))
              (.ite (((zw (ze a1.consumers a0.C) a1.clock).getD default).2 != 0)
                (.leaf ((⟨((zw (ze a1.consumers a0.C) a1.clock).getD default).2, 0⟩ : Reply), a1))
                (.leaf ((⟨0, 0⟩ : Reply), { (a1 : Wld) with consumers := (zrn a1.consumers a0.C ((zw (ze a1.consumers a0.C) a1.clock).getD default).1) })))))
            (.ite (a0.Kind == 8)
              (.ite (a0.Back)
                (.guard ((0 : Int) ≤ a0.C ∧ (a0.C : Int) < 2)
                (.guard ((0 : Int) ≤ 1 ∧ (1 : Int) < 2)
                (.guard ((0 : Int) ≤ a0.C ∧ (a0.C : Int) < 2)
                (.ite (false)
                  (.leaf ((⟨0, 0⟩ : Reply), { (a1 : Wld) with p := { (a1.p : za) with Links := { (a1.p.Links : Links) with SHeight := (a1.p.Links.SHeight.set a0.C (a1.heads.CHeight.get a0.C)), STime := (a1.p.Links.STime.set a0.C (a1.heads.CTime.get a0.C)), SSaid := (a1.p.Links.SSaid.set a0.C (a1.heads.CSaid.get a0.C)), SGot := (a1.p.Links.SGot.set a0.C (a1.heads.CGot.get a0.C)) } } }))
                  (.leaf ((⟨0, 0⟩ : Reply), { (a1 : Wld) with p := { (a1.p : za) with Links := { (a1.p.Links : Links) with SHeight := (a1.p.Links.SHeight.set a0.C (a1.heads.CHeight.get a0.C)), STime := (a1.p.Links.STime.set a0.C (a1.heads.CTime.get a0.C)), SSaid := (a1.p.Links.SSaid.set a0.C (a1.heads.CSaid.get a0.C)), SGot := (a1.p.Links.SGot.set a0.C (a1.heads.CGot.get a0.C)) } }, consumers := (zrn a1.consumers a0.C (ze a1.consumers a0.C)) }))))))
                (.guard ((0 : Int) ≤ a0.C ∧ (a0.C : Int) < 2)
                (.guard ((0 : Int) ≤ 0 ∧ (0 : Int) < 2)
                (.ite (false)
                  (.leaf ((⟨0, 0⟩ : Reply), a1))
                  (.leaf ((⟨0, 0⟩ : Reply), { (a1 : Wld) with consumers := (zrn a1.consumers a0.C ({ ((ze a1.consumers a0.C) : zb) with Seen := (⟨a1.heads.PHeight.get a0.C, a1.heads.PTime.get a0.C, a1.heads.PSaid.get a0.C, a1.heads.PGot.get a0.C⟩ : z72) })) }))))))
              (.ite (a0.Kind == 9)
                (.bind (zgm a0 a1) fun v1 =>
                (.leaf (v1.1, v1.2)))
                (.ite (a0.Kind == 10)
                  (.bind (zg6 a0 a1) fun v2 =>
                  (.leaf (v2.1, v2.2)))
                  (.ite (a0.Kind == 11)
                    (.guard ((zd9 (ze a1.consumers a0.C) a0.V a1.clock).isSome = true)
                    (.ite (((zd9 (ze a1.consumers a0.C) a0.V a1.clock).getD default).2 != 0)
                      (.leaf ((⟨((zd9 (ze a1.consumers a0.C) a0.V a1.clock).getD default).2, 0⟩ : Reply), a1))
                      (.leaf ((⟨0, 0⟩ : Reply), { (a1 : Wld) with consumers := (zrn a1.consumers a0.C ((zd9 (ze a1.consumers a0.C) a0.V a1.clock).getD default).1) }))))
                    (.ite (a0.Kind == 12)
                      (.guard ((zdb (ze a1.consumers a0.C) a0.V a0.N a1.clock).isSome = true)
                      (.ite (((zdb (ze a1.consumers a0.C) a0.V a0.N a1.clock).getD default).2 != 0)
                        (.leaf ((⟨((zdb (ze a1.consumers a0.C) a0.V a0.N a1.clock).getD default).2, 0⟩ : Reply), a1))
                        (.leaf ((⟨0, 0⟩ : Reply), { (a1 : Wld) with consumers := (zrn a1.consumers a0.C ((zdb (ze a1.consumers a0.C) a0.V a0.N a1.clock).getD default).1) }))))
                      (.ite (false)
                        (.leaf ((⟨0, 0⟩ : Reply), a1))
                        (.leaf ((⟨0, 0⟩ : Reply), { (a1 : Wld) with consumers := (zrn a1.consumers a0.C (ze a1.consumers a0.C)) }))))))))))))))
def zgn (a0 : Deed) (a1 : Wld) : Option (Reply × Wld) := (zej a0 a1).run
def zau7 : LQ (Deed × Wld) := (LQ.skip (LQ.const (.ptr 0 0)) (LQ.seq (Par.q (Par.ofLP deedL)) (LP.q zst)))
def zla : LQ (Reply × Wld) := (LQ.seq (Par.q (Par.ofLP zyy)) (LP.q zst))
def zm3 : SpecT := zt 1 zau7 2 [.cells 109 159] (fun s => zej s.1 s.2) default zla 1 [.cells 109 159]
theorem zul : zg Tryz.prog 65 (zm3).spec :=
  zd (A := za4l) za4k Facts.mix Tryz.func65 (c := za4h) (by kernel_rfl) (Lc := 1) trivial zau7 2 7 [.cells 109 159] (fun s => zej s.1 s.2) default zla 1 [.cells 109 159] [.pubN 0] (by decide) (by kernel_rfl) (by rfl) (by decide) (by decide) (by rfl)
    (by rintro ⟨a0, a1⟩; kernel_rfl)
noncomputable def za4m : Code := Tryz.f29.body.getD .skip
def za4n : List (List Nat) := [[0, 3, 4], [0, 3, 4, 7], [4], [0, 3, 4, 11], [4], [0, 3, 4], [0, 3, 4], [0, 3, 4, 6], [0, 3, 4, 6, 30], [4], [0, 3, 4, 6, 30, 34], [0, 4, 5, 6], [0, 3, 4, 6, 30, 47], [0, 4, 5, 6], [0, 3, 4, 6, 30, 64], [0, 4, 5, 6], [0, 3, 4, 6, 30, 75], [0, 4, 5, 6], [0, 3, 4, 30, 86], [0, 3, 4, 100], [4], [0, 4], [4], [0, 3, 4, 116], [4], [0, 4, 5, 6, 121], [4], [4], [4]]
noncomputable def za4o : EnvT := ⟨Tryz.prog, zq [(60, zpk), (61, zmx), (62, zxt), (63, zpl), (64, zm0), (65, zm3)]⟩
theorem za4p : (za4o).Ok := zc ⟨zw3, zui, z4k, zw4, zuj, zul, trivial⟩
def za4q : Ann := ⟨[], [], [[1, 0, 0, 1]], za4n, []⟩
def zi8 (a0 : Deed) (a1 : Wld) : Tr (Reply × Wld) :=
  (.ite (decide (a1.deeds ≥ 600))
    (.leaf ((⟨6, 0⟩ : Reply), a1))
    (.ite (a0.Kind == 1)
      (.bind (zib a1.p a0.D a0.V a0.N) fun v1 =>
      (.ite (v1.2 != 0)
        (.leaf ((⟨v1.2, 0⟩ : Reply), { (a1 : Wld) with deeds := IntKind.i64.wrap (a1.deeds + 1) }))
        (.leaf ((⟨0, 0⟩ : Reply), { (a1 : Wld) with p := v1.1, deeds := IntKind.i64.wrap (a1.deeds + 1) }))))
      (.ite (a0.Kind == 2)
        (.guard ((zbh a1.p a0.D a0.V a0.N a1.clock).isSome = true)
        (.ite (((zbh a1.p a0.D a0.V a0.N a1.clock).getD default).2 != 0)
          (.leaf ((⟨((zbh a1.p a0.D a0.V a0.N a1.clock).getD default).2, 0⟩ : Reply), { (a1 : Wld) with deeds := IntKind.i64.wrap (a1.deeds + 1) }))
          (.leaf ((⟨0, 0⟩ : Reply), { (a1 : Wld) with p := ((zbh a1.p a0.D a0.V a0.N a1.clock).getD default).1, deeds := IntKind.i64.wrap (a1.deeds + 1) }))))
        (.ite (a0.Kind == 3)
          (.bind (zpd a1.p.Stake a0.V) fun v2 =>
          (.ite (v2.2 != 0)
            (.leaf ((⟨v2.2, 0⟩ : Reply), { (a1 : Wld) with deeds := IntKind.i64.wrap (a1.deeds + 1) }))
            (.leaf ((⟨0, 0⟩ : Reply), { (a1 : Wld) with p := { (a1.p : za) with Stake := v2.1 }, deeds := IntKind.i64.wrap (a1.deeds + 1) }))))
          (.ite (a0.Kind == 13)
            (.bind (zid a1.p a0.V a0.N) fun v3 =>
            (.ite (v3.2 != 0)
              (.leaf ((⟨v3.2, 0⟩ : Reply), { (a1 : Wld) with deeds := IntKind.i64.wrap (a1.deeds + 1) }))
              (.leaf ((⟨0, 0⟩ : Reply), { (a1 : Wld) with p := v3.1, deeds := IntKind.i64.wrap (a1.deeds + 1) }))))
            (.ite (a0.Kind == 5)
              (.ite ((decide (a0.N < 1)) || (decide (a0.N > (IntKind.i64.wrap (1099511627736 - a1.clock)))))
                (.leaf ((⟨2, 0⟩ : Reply), { (a1 : Wld) with deeds := IntKind.i64.wrap (a1.deeds + 1) }))
                (.leaf ((⟨0, IntKind.i64.wrap (a1.clock + a0.N)⟩ : Reply), { (a1 : Wld) with clock := IntKind.i64.wrap (a1.clock + a0.N), deeds := IntKind.i64.wrap (a1.deeds + 1) })))
              (.ite (a0.Kind == 6)
                (.bind (zgl ({ (a1 : Wld) with deeds := IntKind.i64.wrap (a1.deeds + 1) })) fun v4 =>
                (.leaf (v4.1, v4.2)))
                (.bind (zgn a0 ({ (a1 : Wld) with deeds := IntKind.i64.wrap (a1.deeds + 1) })) fun v5 =>
                (.leaf (v5.1, v5.2))))))))))
def zbd (a0 : Deed) (a1 : Wld) : Option (Reply × Wld) := (zi8 a0 a1).run
def zau8 : LQ (Deed × Wld) := (LQ.skip (LQ.const (.ptr 0 0)) (LQ.seq (Par.q (Par.ofLP deedL)) (LP.q zst)))
def zsi : LQ (Reply × Wld) := (LQ.seq (Par.q (Par.ofLP zyy)) (LP.q zst))
def zi9 : SpecT := zt 1 zau8 2 [.cells 109 159] (fun s => zi8 s.1 s.2) default zsi 1 [.cells 109 159]
theorem zlm : zg Tryz.prog 29 (zi9).spec :=
  zd (A := za4q) za4p Facts.mix Tryz.func29 (c := za4m) (by kernel_rfl) (Lc := 1) trivial zau8 2 6 [.cells 109 159] (fun s => zi8 s.1 s.2) default zsi 1 [.cells 109 159] [.pubN 0] (by decide) (by kernel_rfl) (by rfl) (by decide) (by decide) (by rfl)
    (by rintro ⟨a0, a1⟩; kernel_rfl)
end
end Go.Proofs.YtmakmlnfbdablaaGreat.Ab
