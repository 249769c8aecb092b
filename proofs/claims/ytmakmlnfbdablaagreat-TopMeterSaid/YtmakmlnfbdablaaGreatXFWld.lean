/-
  The functions, each by its tree.
-/
import Derived.Test.YtmakmlnfbdablaaGreatXAbFun
import Derived.Test.YtmakmlnfbdablaaGreatXAbStructs
import Derived.Test.YtmakmlnfbdablaaGreatXFBank
import Derived.Test.YtmakmlnfbdablaaGreatXFCodec
import Derived.Test.YtmakmlnfbdablaaGreatXFCons
import Derived.Test.YtmakmlnfbdablaaGreatXFLine
import Derived.Test.YtmakmlnfbdablaaGreatXFProv
import Derived.Test.YtmakmlnfbdablaaGreatXFStakeA
import Derived.Test.YtmakmlnfbdablaaGreatXFStakeB
import Derived.Test.YtmakmlnfbdablaaGreatXFacts
namespace Go.Proofs.YtmakmlnfbdablaaGreat.Ab
open Go Go.RowKit
set_option maxRecDepth 100000
set_option linter.unusedVariables false
set_option linter.unusedSimpArgs false
noncomputable section
noncomputable def za2t : Code := Tryz.f43.body.getD .skip
def za2u : List (List Nat) := [[], [0]]
noncomputable def za2v : EnvT := ⟨Tryz.prog, zt [(31, zri)]⟩
theorem za2w : (za2v).Ok := zd ⟨zvi, trivial⟩
def za2x : Ann := ⟨[], [], [], za2u, []⟩
def ztj  : Tr (Wld) :=
  (.bind (zko) fun v1 =>
  (.leaf (⟨0, v1, (default : zcs), (default : zw5), 0⟩ : Wld)))
def zq1  : Option (Wld) := (ztj ).run
def zaup : LQ (Unit) := LQ.nil
def z2o : LQ (Wld) := (LQ.skip (LQ.const (.ptr 0 0)) (LP.q zw6))
def zyz : SpecT := zu 0 zaup 0 [] (fun s => ztj ) default z2o 1 [.cells 109 159]
theorem z2p : zh Tryz.prog 43 (zyz).spec :=
  ze (A := za2x) za2w Facts.mix Tryz.func43 (c := za2t) (by kernel_rfl) (Lc := 0) trivial zaup 0 3 [] (fun s => ztj ) default z2o 1 [.cells 109 159] [.pubB 0] (by decide) (by kernel_rfl) (by rfl) (by decide) (by decide) (by rfl)
    (by rintro _; kernel_rfl)
noncomputable def za2y : Code := Tryz.f40.body.getD .skip
def za2z : List (List Nat) := [[0], [0, 4], [2], [2]]
noncomputable def za21 : EnvT := ⟨Tryz.prog, zt []⟩
theorem za3a : (za21).Ok := zd trivial
def za3b : Ann := ⟨[], [], [[1, 0, 1]], za2z, []⟩
def zf9 (a0 : Wld) : Tr (Int × Wld) :=
  (.leaf (a0.clock, a0))
def zig (a0 : Wld) : Option (Int × Wld) := (zf9 a0).run
def zauq : LQ (Wld) := (LQ.skip (LQ.const (.ptr 0 0)) (LP.q zw6))
def znv : LQ (Int × Wld) := (LQ.seq (Par.q intP) (LP.q zw6))
def zpq : SpecT := zu 1 zauq 1 [.cells 109 159] (fun s => zf9 s) default znv 1 [.cells 109 159]
theorem zxa : zh Tryz.prog 40 (zpq).spec :=
  ze (A := za3b) za3a Facts.mix Tryz.func40 (c := za2y) (by kernel_rfl) (Lc := 1) trivial zauq 1 3 [.cells 109 159] (fun s => zf9 s) default znv 1 [.cells 109 159] [.pubN 0] (by decide) (by kernel_rfl) (by rfl) (by decide) (by decide) (by rfl)
    (by rintro a0; kernel_rfl)
noncomputable def za3c : Code := Tryz.f46.body.getD .skip
def za3d : List (List Nat) := [[0], [2]]
noncomputable def za3e : EnvT := ⟨Tryz.prog, zt []⟩
theorem za3f : (za3e).Ok := zd trivial
def za3g : Ann := ⟨[], [], [], za3d, []⟩
def zmj (a0 : (List Power)) : Tr ((List Power)) :=
  (.guard ((0 + Sl.len (.powers a0)) * 16 ≤ 140737488355328)
  (.leaf a0))
def zb5 (a0 : (List Power)) : Option ((List Power)) := (zmj a0).run
def zaur : LQ ((List Power)) := (Par.q zp)
def zvq : LQ ((List Power)) := (Par.q zp)
def zmk : SpecT := zu 0 zaur 1 [] (fun s => zmj s) default zvq 1 []
theorem zpr : zh Tryz.prog 46 (zmk).spec :=
  ze (A := za3g) za3f Facts.mix Tryz.func46 (c := za3c) (by kernel_rfl) (Lc := 0) trivial zaur 1 3 [] (fun s => zmj s) default zvq 1 [] [.pub 2] (by decide) (by kernel_rfl) (by rfl) (by decide) (by decide) (by rfl)
    (by rintro a0; kernel_rfl)
noncomputable def za3h : Code := Tryz.f47.body.getD .skip
def za3i : List (List Nat) := [[0], [2]]
noncomputable def za3j : EnvT := ⟨Tryz.prog, zt []⟩
theorem za3k : (za3j).Ok := zd trivial
def za3l : Ann := ⟨[], [], [], za3i, []⟩
def zkw (a0 : (List Int)) : Tr ((List Int)) :=
  (.guard ((0 + Sl.len (.ints a0)) * 8 ≤ 140737488355328)
  (.leaf a0))
def zce (a0 : (List Int)) : Option ((List Int)) := (zkw a0).run
def zaus : LQ ((List Int)) := (Par.q zg1)
def zue : LQ ((List Int)) := (Par.q zg1)
def zkx : SpecT := zu 0 zaus 1 [] (fun s => zkw s) default zue 1 []
theorem znk : zh Tryz.prog 47 (zkx).spec :=
  ze (A := za3l) za3k Facts.mix Tryz.func47 (c := za3h) (by kernel_rfl) (Lc := 0) trivial zaus 1 3 [] (fun s => zkw s) default zue 1 [] [.pub 2] (by decide) (by kernel_rfl) (by rfl) (by decide) (by decide) (by rfl)
    (by rintro a0; kernel_rfl)
noncomputable def za3m : Code := Tryz.f49.body.getD .skip
def za3n : List (List Nat) := [[1, 2], [1, 2], [2]]
noncomputable def za3o : EnvT := ⟨Tryz.prog, zt [(46, zmk), (47, zkx)]⟩
theorem za3p : (za3o).Ok := zd ⟨zpr, znk, trivial⟩
def za3q : Ann := ⟨[], [], [], za3n, []⟩
def zml (a0 : Packet) : Tr (Packet) :=
  (.guard ((zb5 a0.Set).isSome = true)
  (.guard ((zce a0.Done).isSome = true)
  (.leaf ({ (a0 : Packet) with Set := ((zb5 a0.Set).getD default), Done := ((zce a0.Done).getD default) }))))
def zfp (a0 : Packet) : Option (Packet) := (zml a0).run
def zaut : LQ (Packet) := (Par.q (Par.ofLP zlj))
def zvr : LQ (Packet) := (Par.q (Par.ofLP zlj))
def zrj : SpecT := zu 0 zaut 1 [] (fun s => zml s) default zvr 1 []
theorem zvs : zh Tryz.prog 49 (zrj).spec :=
  ze (A := za3q) za3p Facts.mix Tryz.func49 (c := za3m) (by kernel_rfl) (Lc := 0) trivial zaut 1 4 [] (fun s => zml s) default zvr 1 [] [.pubB 2] (by decide) (by kernel_rfl) (by rfl) (by decide) (by decide) (by rfl)
    (by rintro a0; kernel_rfl)
noncomputable def za3r : Code := Tryz.f48.body.getD .skip
def za3s : List (List Nat) := [[1, 2], [1, 2], [2]]
noncomputable def za3t : EnvT := ⟨Tryz.prog, zt [(47, zkx)]⟩
theorem za3u : (za3t).Ok := zd ⟨znk, trivial⟩
def za3v : Ann := ⟨[], [], [], za3s, []⟩
def zky (a0 : ze0) : Tr (ze0) :=
  (.guard ((0 + Sl.len (.strs a0.Said)) * 16 ≤ 140737488355328)
  (.guard ((zce a0.Due).isSome = true)
  (.leaf ({ (a0 : ze0) with Due := ((zce a0.Due).getD default) }))))
def zbs (a0 : ze0) : Option (ze0) := (zky a0).run
def zauu : LQ (ze0) := (Par.q (Par.ofLP lineL))
def zuf : LQ (ze0) := (Par.q (Par.ofLP lineL))
def zps : SpecT := zu 0 zauu 1 [] (fun s => zky s) default zuf 1 []
theorem zug : zh Tryz.prog 48 (zps).spec :=
  ze (A := za3v) za3u Facts.mix Tryz.func48 (c := za3r) (by kernel_rfl) (Lc := 0) trivial zauu 1 5 [] (fun s => zky s) default zuf 1 [] [.pubB 2] (by decide) (by kernel_rfl) (by rfl) (by decide) (by decide) (by rfl)
    (by rintro a0; kernel_rfl)
noncomputable def zai2 : Code := Tryz.f19.body.getD .skip
def zaq4 : List (List Nat) := [[0, 2], [0, 2, 10], [2], [2, 3], [2, 3], [2, 3], [2, 3, 26], [2, 3, 26, 27], [2, 3, 4, 26], [2, 3, 5, 26], [2, 3, 26], [2, 3, 26], [2, 3, 6], [2, 3, 6, 58, 59, 60], [2, 3, 6, 58, 59, 60, 61], [2, 3, 6, 8, 58, 59, 60], [2, 3, 6, 58, 59, 60], [2, 3, 6, 58, 59, 60], [2, 3], [2]]
noncomputable def zaq5 : EnvT := ⟨Tryz.prog, zt [(46, zmk), (47, zkx), (48, zps), (49, zrj)]⟩
theorem zaq6 : (zaq5).Ok := zd ⟨zpr, znk, zug, zvs, trivial⟩
def zaq (x0 : Int) (x1 : Wld) (x2 : za) (x3 : za) : Tr ((Int × Wld × za × za) ⊕ (Wld × za × za)) :=
  (.ite (decide (x0 < 2))
    (.guard ((0 : Int) ≤ x0 ∧ (x0 : Int) < 2)
    (.guard ((zb5 (x3.Links.Told.get x0)).isSome = true)
    (.guard ((zce (x3.Links.Done.get x0)).isSome = true)
    (.guard ((zbs (zm x3.Links x0).Out).isSome = true)
    (.leaf (.inl (IntKind.i64.wrap (x0 + 1), x1, x2, { (x3 : za) with Links := { (x3.Links : Links) with Told := (x3.Links.Told.set x0 ((zb5 (x3.Links.Told.get x0)).getD default)), Done := (x3.Links.Done.set x0 ((zce (x3.Links.Done.get x0)).getD default)), Said := (x3.Links.Said.set x0 ((zbs (zm x3.Links x0).Out).getD default).Said), Due := (x3.Links.Due.set x0 ((zbs (zm x3.Links x0).Out).getD default).Due), Got := (x3.Links.Got.set x0 ((zbs (zm x3.Links x0).Out).getD default).Got), Closed := (x3.Links.Closed.set x0 ((zbs (zm x3.Links x0).Out).getD default).Closed) } })))))))
    (.leaf (.inr (x1, x2, x3))))
def zeb (x0 : Int) (x1 : Wld) (x2 : za) (x3 : za) : Option (Wld × za × za) := ze1 (fun s : Int × Wld × za × za => (zaq s.1 s.2.1 s.2.2.1 s.2.2.2).run) (x0, x1, x2, x3)
def zauv : Ann := ⟨[], [], [], zaq4, []⟩
def zauw : EndD (Int × Wld × za × za) := ⟨(LQ.map (LQ.skip (LQ.const (.ptr 1 0)) (LQ.skip (LQ.const (.ptr 2 0)) (LQ.seq (Par.q intP) (LQ.seq (LP.q zw6) (LQ.seq (LP.q providerL) (LQ.seq (Par.q intP) (LQ.seq (Par.q intP) (LQ.seq (LP.q bankL) (LQ.seq (LP.q validatorsL) (LQ.seq (LP.q (a4L (a6L (LP.one intP)))) (LQ.skip (LQ.const (.own 3)) (LQ.seq (Par.q intP) (LQ.seq (Par.q zp) (LQ.seq (LP.q linksL) (LQ.seq (LP.q meterL) (LQ.seq (Par.q ze8) (Par.q zmu))))))))))))))))) (fun x : Int × Wld × za × Int × Int × Bank × Validators × (A4 (A6 Int)) × Int × (List Power) × Links × Meter × (List Asked) × (List Wait) => ((x.1, x.2.1, x.2.2.1, (⟨x.2.2.2.1, x.2.2.2.2.1, (⟨x.2.2.2.2.2.1, x.2.2.2.2.2.2.1, x.2.2.2.2.2.2.2.1, x.2.2.2.2.2.2.2.2.2.2.2.2.2, x.2.2.2.2.2.2.2.2.1⟩ : Stake), x.2.2.2.2.2.2.2.2.2.1, x.2.2.2.2.2.2.2.2.2.2.1, x.2.2.2.2.2.2.2.2.2.2.2.1, x.2.2.2.2.2.2.2.2.2.2.2.2.1⟩ : za)) : Int × Wld × za × za)) (fun y => (y.1, y.2.1, y.2.2.1, y.2.2.2.Height, y.2.2.2.Time, y.2.2.2.Stake.Bank, y.2.2.2.Stake.Validators, y.2.2.2.Stake.Shares, y.2.2.2.Stake.Next, y.2.2.2.Set, y.2.2.2.Links, y.2.2.2.Meter, y.2.2.2.Queue, y.2.2.2.Stake.Waits)) (fun _ => rfl)), ⟨[2, 3, 26], [.nilcell 3 63 98 (.waits [])]⟩, [.cells 109 159, .cells 61 97, .cells 61 97, .rows 98]⟩
def zal1 : EndD (Wld × za × za) := ⟨(LQ.map (LQ.skip (LQ.const (.ptr 1 0)) (LQ.skip (LQ.const (.ptr 2 0)) (LQ.seq (LP.q zw6) (LQ.seq (LP.q providerL) (LQ.seq (Par.q intP) (LQ.seq (Par.q intP) (LQ.seq (LP.q bankL) (LQ.seq (LP.q validatorsL) (LQ.seq (LP.q (a4L (a6L (LP.one intP)))) (LQ.skip (LQ.const (.own 3)) (LQ.seq (Par.q intP) (LQ.seq (Par.q zp) (LQ.seq (LP.q linksL) (LQ.seq (LP.q meterL) (LQ.seq (Par.q ze8) (Par.q zmu)))))))))))))))) (fun x : Wld × za × Int × Int × Bank × Validators × (A4 (A6 Int)) × Int × (List Power) × Links × Meter × (List Asked) × (List Wait) => ((x.1, x.2.1, (⟨x.2.2.1, x.2.2.2.1, (⟨x.2.2.2.2.1, x.2.2.2.2.2.1, x.2.2.2.2.2.2.1, x.2.2.2.2.2.2.2.2.2.2.2.2, x.2.2.2.2.2.2.2.1⟩ : Stake), x.2.2.2.2.2.2.2.2.1, x.2.2.2.2.2.2.2.2.2.1, x.2.2.2.2.2.2.2.2.2.2.1, x.2.2.2.2.2.2.2.2.2.2.2.1⟩ : za)) : Wld × za × za)) (fun y => (y.1, y.2.1, y.2.2.Height, y.2.2.Time, y.2.2.Stake.Bank, y.2.2.Stake.Validators, y.2.2.Stake.Shares, y.2.2.Stake.Next, y.2.2.Set, y.2.2.Links, y.2.2.Meter, y.2.2.Queue, y.2.2.Stake.Waits)) (fun _ => rfl)), ⟨[2, 3], [.nilcell 3 63 98 (.waits [])]⟩, [.cells 109 159, .cells 61 97, .cells 61 97, .rows 98]⟩
def zaog : St → Option LR := L1 77 10 1 zauw (.exit 0) zal1 (fun s => zaq s.1 s.2.1 s.2.2.1 s.2.2.2)
theorem zaux : zv (zaq5).env 1 (sub zai2 [0, 1, 0, 1, 1, 1, 1, 1]) zaog :=
  zii (A := zauv) zaq6 Facts.mix trivial (k := zdk (sub zai2 [0, 1, 0, 1, 1, 1, 1, 1])) (by kernel_rfl) rfl (by rintro ⟨x0, x1, x2, x3⟩; kernel_rfl)
def zbn (x0 : (List Asked)) (x1 : Int) (x2 : Int) (x3 : Wld) (x4 : za) (x5 : za) (x6 : (List Asked)) : Tr (((List Asked) × Int × Int × Wld × za × za × (List Asked)) ⊕ (Wld × za × za × (List Asked))) :=
  (.ite (decide (x2 < x1))
    (.guard ((0 : Int) ≤ x2 ∧ x2 < ((Sl.len (.asked x0) : Nat) : Int))
    (.guard ((zfp (x0.getD x2.toNat default).P).isSome = true)
    (.guard ((Sl.len (.asked x6) + Sl.len (.asked [(⟨(x0.getD x2.toNat default).C, ((zfp (x0.getD x2.toNat default).P).getD default)⟩ : Asked)])) * 88 ≤ 140737488355328)
    (.leaf (.inl (x0, x1, IntKind.i64.wrap (x2 + 1), x3, x4, x5, x6 ++ [(⟨(x0.getD x2.toNat default).C, ((zfp (x0.getD x2.toNat default).P).getD default)⟩ : Asked)]))))))
    (.leaf (.inr (x3, x4, x5, x6))))
def zec (x0 : (List Asked)) (x1 : Int) (x2 : Int) (x3 : Wld) (x4 : za) (x5 : za) (x6 : (List Asked)) : Option (Wld × za × za × (List Asked)) := ze1 (fun s : (List Asked) × Int × Int × Wld × za × za × (List Asked) => (zbn s.1 s.2.1 s.2.2.1 s.2.2.2.1 s.2.2.2.2.1 s.2.2.2.2.2.1 s.2.2.2.2.2.2).run) (x0, x1, x2, x3, x4, x5, x6)
def zauy : Ann := ⟨[], [], [], zaq4, []⟩
def zauz : EndD ((List Asked) × Int × Int × Wld × za × za × (List Asked)) := ⟨(LQ.map (LQ.skip (LQ.const (.ptr 1 0)) (LQ.skip (LQ.const (.ptr 2 0)) (LQ.skip (LQ.const (.own 3)) (LQ.seq (Par.q ze8) (LQ.seq (Par.q intP) (LQ.seq (Par.q intP) (LQ.seq (LP.q zw6) (LQ.seq (LP.q providerL) (LQ.seq (Par.q intP) (LQ.seq (Par.q intP) (LQ.seq (LP.q bankL) (LQ.seq (LP.q validatorsL) (LQ.seq (LP.q (a4L (a6L (LP.one intP)))) (LQ.skip (LQ.const (.own 4)) (LQ.seq (Par.q intP) (LQ.seq (Par.q zp) (LQ.seq (LP.q linksL) (LQ.seq (LP.q meterL) (LQ.seq (Par.q ze8) (LQ.seq (Par.q ze8) (Par.q zmu))))))))))))))))))))) (fun x : (List Asked) × Int × Int × Wld × za × Int × Int × Bank × Validators × (A4 (A6 Int)) × Int × (List Power) × Links × Meter × (List Asked) × (List Asked) × (List Wait) => ((x.1, x.2.1, x.2.2.1, x.2.2.2.1, x.2.2.2.2.1, (⟨x.2.2.2.2.2.1, x.2.2.2.2.2.2.1, (⟨x.2.2.2.2.2.2.2.1, x.2.2.2.2.2.2.2.2.1, x.2.2.2.2.2.2.2.2.2.1, x.2.2.2.2.2.2.2.2.2.2.2.2.2.2.2.2, x.2.2.2.2.2.2.2.2.2.2.1⟩ : Stake), x.2.2.2.2.2.2.2.2.2.2.2.1, x.2.2.2.2.2.2.2.2.2.2.2.2.1, x.2.2.2.2.2.2.2.2.2.2.2.2.2.1, x.2.2.2.2.2.2.2.2.2.2.2.2.2.2.1⟩ : za), x.2.2.2.2.2.2.2.2.2.2.2.2.2.2.2.1) : (List Asked) × Int × Int × Wld × za × za × (List Asked))) (fun y => (y.1, y.2.1, y.2.2.1, y.2.2.2.1, y.2.2.2.2.1, y.2.2.2.2.2.1.Height, y.2.2.2.2.2.1.Time, y.2.2.2.2.2.1.Stake.Bank, y.2.2.2.2.2.1.Stake.Validators, y.2.2.2.2.2.1.Stake.Shares, y.2.2.2.2.2.1.Stake.Next, y.2.2.2.2.2.1.Set, y.2.2.2.2.2.1.Links, y.2.2.2.2.2.1.Meter, y.2.2.2.2.2.1.Queue, y.2.2.2.2.2.2, y.2.2.2.2.2.1.Stake.Waits)) (fun _ => rfl)), ⟨[2, 3, 6, 58, 59, 60], [.nilcell 3 63 98 (.waits []), .nilown 6 101 (.asked []), .pub 58, .nilsl 58 (.asked [])]⟩, [.cells 109 159, .cells 61 97, .cells 61 97, .rows 101, .rows 98]⟩
def zal2 : EndD (Wld × za × za × (List Asked)) := ⟨(LQ.map (LQ.skip (LQ.const (.ptr 1 0)) (LQ.skip (LQ.const (.ptr 2 0)) (LQ.skip (LQ.const (.own 3)) (LQ.seq (LP.q zw6) (LQ.seq (LP.q providerL) (LQ.seq (Par.q intP) (LQ.seq (Par.q intP) (LQ.seq (LP.q bankL) (LQ.seq (LP.q validatorsL) (LQ.seq (LP.q (a4L (a6L (LP.one intP)))) (LQ.skip (LQ.const (.own 4)) (LQ.seq (Par.q intP) (LQ.seq (Par.q zp) (LQ.seq (LP.q linksL) (LQ.seq (LP.q meterL) (LQ.seq (Par.q ze8) (LQ.seq (Par.q ze8) (Par.q zmu)))))))))))))))))) (fun x : Wld × za × Int × Int × Bank × Validators × (A4 (A6 Int)) × Int × (List Power) × Links × Meter × (List Asked) × (List Asked) × (List Wait) => ((x.1, x.2.1, (⟨x.2.2.1, x.2.2.2.1, (⟨x.2.2.2.2.1, x.2.2.2.2.2.1, x.2.2.2.2.2.2.1, x.2.2.2.2.2.2.2.2.2.2.2.2.2, x.2.2.2.2.2.2.2.1⟩ : Stake), x.2.2.2.2.2.2.2.2.1, x.2.2.2.2.2.2.2.2.2.1, x.2.2.2.2.2.2.2.2.2.2.1, x.2.2.2.2.2.2.2.2.2.2.2.1⟩ : za), x.2.2.2.2.2.2.2.2.2.2.2.2.1) : Wld × za × za × (List Asked))) (fun y => (y.1, y.2.1, y.2.2.1.Height, y.2.2.1.Time, y.2.2.1.Stake.Bank, y.2.2.1.Stake.Validators, y.2.2.1.Stake.Shares, y.2.2.1.Stake.Next, y.2.2.1.Set, y.2.2.1.Links, y.2.2.1.Meter, y.2.2.1.Queue, y.2.2.2, y.2.2.1.Stake.Waits)) (fun _ => rfl)), ⟨[2, 3, 6], [.nilcell 3 63 98 (.waits []), .nilown 6 101 (.asked [])]⟩, [.cells 109 159, .cells 61 97, .cells 61 97, .rows 101, .rows 98]⟩
def zaoh : St → Option LR := L1 77 10 1 zauz (.exit 2) zal2 (fun s => zbn s.1 s.2.1 s.2.2.1 s.2.2.2.1 s.2.2.2.2.1 s.2.2.2.2.2.1 s.2.2.2.2.2.2)
theorem zau0 : zv (zaq5).env 1 (sub zai2 [0, 1, 0, 1, 1, 1, 1, 1, 1, 1]) zaoh :=
  zii (A := zauy) zaq6 Facts.mix trivial (k := zdk (sub zai2 [0, 1, 0, 1, 1, 1, 1, 1, 1, 1])) (by kernel_rfl) rfl (by rintro ⟨x0, x1, x2, x3, x4, x5, x6⟩; kernel_rfl)
def za3w : Ann := ⟨[([0, 1, 0, 1, 1, 1, 1, 1], zaog), ([0, 1, 0, 1, 1, 1, 1, 1, 1, 1], zaoh)], [], [[1, 0, 1]], zaq4, []⟩
def zd4 (a0 : Wld) : Tr (za × Wld) :=
  (.guard ((0 + Sl.len (.waits a0.p.Stake.Waits)) * 64 ≤ 140737488355328)
  (.bind (zb5 a0.p.Set) fun v1 =>
  (.bind (zeb 0 a0 (default : za) ({ (a0.p : za) with Set := v1 })) fun v2 =>
  (.bind (zec v2.2.2.Queue ((v2.2.2.Queue.length : Nat) : Int) 0 v2.1 v2.2.1 v2.2.2 []) fun v3 =>
  (.leaf ({ (v3.2.2.1 : za) with Queue := v3.2.2.2 }, v3.1))))))
def zdr (a0 : Wld) : Option (za × Wld) := (zd4 a0).run
def zau1 : LQ (Wld) := (LQ.skip (LQ.const (.ptr 0 0)) (LP.q zw6))
def zkz : LQ (za × Wld) := (LQ.seq (Par.q (Par.ofLP providerL)) (LP.q zw6))
def zld : SpecT := zu 1 zau1 1 [.cells 109 159] (fun s => zd4 s) default zkz 1 [.cells 109 159]
theorem ztk : zh Tryz.prog 19 (zld).spec :=
  ze (A := za3w) zaq6 Facts.mix Tryz.func19 (c := zai2) (by kernel_rfl) (Lc := 1) ⟨zaux, zau0, trivial⟩ zau1 1 10 [.cells 109 159] (fun s => zd4 s) default zkz 1 [.cells 109 159] [.pubN 0, .pubB 2] (by decide) (by kernel_rfl) (by rfl) (by decide) (by decide) (by rfl)
    (by rintro a0; kernel_rfl)
noncomputable def zaq7 : Code := Tryz.f23.body.getD .skip
def zau2 : List (List Nat) := [[0, 1, 4], [0, 1, 4, 18], [4], [4, 5], [4, 5], [4, 5, 6], [4, 5, 6, 39, 40, 41], [4, 5, 6, 39, 40, 41, 42], [4, 5, 6, 8, 39, 40, 41], [4, 5, 6, 39, 40, 41], [4, 5, 6, 39, 40, 41], [4, 5], [4]]
noncomputable def zau3 : EnvT := ⟨Tryz.prog, zt [(46, zmk), (48, zps), (49, zrj)]⟩
theorem zau4 : (zau3).Ok := zd ⟨zpr, zug, zvs, trivial⟩
def zbo (x0 : (List Packet)) (x1 : Int) (x2 : Int) (x3 : Wld) (x4 : zb) (x5 : zb) (x6 : (List Packet)) : Tr (((List Packet) × Int × Int × Wld × zb × zb × (List Packet)) ⊕ (Wld × zb × zb × (List Packet))) :=
  (.ite (decide (x2 < x1))
    (.guard ((0 : Int) ≤ x2 ∧ x2 < ((Sl.len (.packets x0) : Nat) : Int))
    (.bind (zfp (x0.getD x2.toNat default)) fun v1 =>
    (.guard ((Sl.len (.packets x6) + Sl.len (.packets [v1])) * 80 ≤ 140737488355328)
    (.leaf (.inl (x0, x1, IntKind.i64.wrap (x2 + 1), x3, x4, x5, x6 ++ [v1]))))))
    (.leaf (.inr (x3, x4, x5, x6))))
def zed (x0 : (List Packet)) (x1 : Int) (x2 : Int) (x3 : Wld) (x4 : zb) (x5 : zb) (x6 : (List Packet)) : Option (Wld × zb × zb × (List Packet)) := ze1 (fun s : (List Packet) × Int × Int × Wld × zb × zb × (List Packet) => (zbo s.1 s.2.1 s.2.2.1 s.2.2.2.1 s.2.2.2.2.1 s.2.2.2.2.2.1 s.2.2.2.2.2.2).run) (x0, x1, x2, x3, x4, x5, x6)
def zau5 : Ann := ⟨[], [], [], zau2, []⟩
def zau6 : EndD ((List Packet) × Int × Int × Wld × zb × zb × (List Packet)) := ⟨(LQ.map (LQ.skip (LQ.const (.ptr 1 0)) (LQ.skip (LQ.const (.ptr 2 0)) (LQ.skip (LQ.const (.own 3)) (LQ.seq (Par.q zd3) (LQ.seq (Par.q intP) (LQ.seq (Par.q intP) (LQ.seq (LP.q zw6) (LQ.seq (LP.q z9) (LQ.seq (Par.q boolP) (LQ.seq (Par.q boolP) (LQ.seq (Par.q intP) (LQ.seq (Par.q intP) (LQ.seq (Par.q intP) (LQ.seq (Par.q zp) (LQ.seq (Par.q zd3) (LQ.skip (LQ.const (.own 4)) (LQ.seq (LP.q (a6L (LP.one boolP))) (LQ.seq (LP.q lineL) (LQ.seq (LP.q z76) (LQ.seq (Par.q zd3) (Par.q zxi))))))))))))))))))))) (fun x : (List Packet) × Int × Int × Wld × zb × Bool × Bool × Int × Int × Int × (List Power) × (List Packet) × (A6 Bool) × ze0 × z75 × (List Packet) × (List Ripe) => ((x.1, x.2.1, x.2.2.1, x.2.2.2.1, x.2.2.2.2.1, (⟨x.2.2.2.2.2.1, x.2.2.2.2.2.2.1, x.2.2.2.2.2.2.2.1, x.2.2.2.2.2.2.2.2.1, x.2.2.2.2.2.2.2.2.2.1, x.2.2.2.2.2.2.2.2.2.2.1, x.2.2.2.2.2.2.2.2.2.2.2.1, x.2.2.2.2.2.2.2.2.2.2.2.2.2.2.2.2, x.2.2.2.2.2.2.2.2.2.2.2.2.1, x.2.2.2.2.2.2.2.2.2.2.2.2.2.1, x.2.2.2.2.2.2.2.2.2.2.2.2.2.2.1⟩ : zb), x.2.2.2.2.2.2.2.2.2.2.2.2.2.2.2.1) : (List Packet) × Int × Int × Wld × zb × zb × (List Packet))) (fun y => (y.1, y.2.1, y.2.2.1, y.2.2.2.1, y.2.2.2.2.1, y.2.2.2.2.2.1.On, y.2.2.2.2.2.1.Gone, y.2.2.2.2.2.1.Height, y.2.2.2.2.2.1.Time, y.2.2.2.2.2.1.Id, y.2.2.2.2.2.1.Set, y.2.2.2.2.2.1.Pending, y.2.2.2.2.2.1.Flags, y.2.2.2.2.2.1.Out, y.2.2.2.2.2.1.Seen, y.2.2.2.2.2.2, y.2.2.2.2.2.1.Ripes)) (fun _ => rfl)), ⟨[4, 5, 6, 39, 40, 41], [.nilcell 5 7 103 (.ripes []), .nilown 6 79 (.packets []), .pub 39, .nilsl 39 (.packets [])]⟩, [.cells 109 159, .cells 71 22, .cells 71 22, .rows 79, .rows 103]⟩
def zal3 : EndD (Wld × zb × zb × (List Packet)) := ⟨(LQ.map (LQ.skip (LQ.const (.ptr 1 0)) (LQ.skip (LQ.const (.ptr 2 0)) (LQ.skip (LQ.const (.own 3)) (LQ.seq (LP.q zw6) (LQ.seq (LP.q z9) (LQ.seq (Par.q boolP) (LQ.seq (Par.q boolP) (LQ.seq (Par.q intP) (LQ.seq (Par.q intP) (LQ.seq (Par.q intP) (LQ.seq (Par.q zp) (LQ.seq (Par.q zd3) (LQ.skip (LQ.const (.own 4)) (LQ.seq (LP.q (a6L (LP.one boolP))) (LQ.seq (LP.q lineL) (LQ.seq (LP.q z76) (LQ.seq (Par.q zd3) (Par.q zxi)))))))))))))))))) (fun x : Wld × zb × Bool × Bool × Int × Int × Int × (List Power) × (List Packet) × (A6 Bool) × ze0 × z75 × (List Packet) × (List Ripe) => ((x.1, x.2.1, (⟨x.2.2.1, x.2.2.2.1, x.2.2.2.2.1, x.2.2.2.2.2.1, x.2.2.2.2.2.2.1, x.2.2.2.2.2.2.2.1, x.2.2.2.2.2.2.2.2.1, x.2.2.2.2.2.2.2.2.2.2.2.2.2, x.2.2.2.2.2.2.2.2.2.1, x.2.2.2.2.2.2.2.2.2.2.1, x.2.2.2.2.2.2.2.2.2.2.2.1⟩ : zb), x.2.2.2.2.2.2.2.2.2.2.2.2.1) : Wld × zb × zb × (List Packet))) (fun y => (y.1, y.2.1, y.2.2.1.On, y.2.2.1.Gone, y.2.2.1.Height, y.2.2.1.Time, y.2.2.1.Id, y.2.2.1.Set, y.2.2.1.Pending, y.2.2.1.Flags, y.2.2.1.Out, y.2.2.1.Seen, y.2.2.2, y.2.2.1.Ripes)) (fun _ => rfl)), ⟨[4, 5, 6], [.nilcell 5 7 103 (.ripes []), .nilown 6 79 (.packets [])]⟩, [.cells 109 159, .cells 71 22, .cells 71 22, .rows 79, .rows 103]⟩
def zaoi : St → Option LR := L1 54 10 1 zau6 (.exit 0) zal3 (fun s => zbo s.1 s.2.1 s.2.2.1 s.2.2.2.1 s.2.2.2.2.1 s.2.2.2.2.2.1 s.2.2.2.2.2.2)
theorem zau7 : zv (zau3).env 1 (sub zaq7 [0, 1, 0, 1, 1, 1, 1, 1]) zaoi :=
  zii (A := zau5) zau4 Facts.mix trivial (k := zdk (sub zaq7 [0, 1, 0, 1, 1, 1, 1, 1])) (by kernel_rfl) rfl (by rintro ⟨x0, x1, x2, x3, x4, x5, x6⟩; kernel_rfl)
def za3x : Ann := ⟨[([0, 1, 0, 1, 1, 1, 1, 1], zaoi)], [], [], zau2, []⟩
def zd5 (a0 : Int) (a1 : Wld) : Tr (zb × Wld) :=
  (.ite ((false || (decide (a0 < 0))) || (decide (a0 ≥ 2)))
    (.leaf ((default : zb), a1))
    (.guard ((0 : Int) ≤ a0 ∧ (a0 : Int) < 2)
    (.guard ((zb5 (a1.consumers.Set.get a0)).isSome = true)
    (.guard ((zbs (zc a1.consumers a0).Out).isSome = true)
    (.guard ((0 + Sl.len (.ripes (a1.consumers.Ripes.get a0))) * 16 ≤ 140737488355328)
    (.bind (zed (a1.consumers.Pending.get a0) (((a1.consumers.Pending.get a0).length : Nat) : Int) 0 a1 (default : zb) ({ ((zc a1.consumers a0) : zb) with Set := ((zb5 (a1.consumers.Set.get a0)).getD default), Out := ((zbs (zc a1.consumers a0).Out).getD default) }) []) fun v2 =>
    (.leaf ({ (v2.2.2.1 : zb) with Pending := v2.2.2.2 }, v2.1))))))))
def zb6 (a0 : Int) (a1 : Wld) : Option (zb × Wld) := (zd5 a0 a1).run
def zau8 : LQ (Int × Wld) := (LQ.skip (LQ.const (.ptr 0 0)) (LQ.seq (Par.q intP) (LP.q zw6)))
def zk0 : LQ (zb × Wld) := (LQ.seq (Par.q (Par.ofLP z9)) (LP.q zw6))
def zle : SpecT := zu 1 zau8 2 [.cells 109 159] (fun s => zd5 s.1 s.2) default zk0 1 [.cells 109 159]
theorem ztl : zh Tryz.prog 23 (zle).spec :=
  ze (A := za3x) zau4 Facts.mix Tryz.func23 (c := zaq7) (by kernel_rfl) (Lc := 1) ⟨zau7, trivial⟩ zau8 2 10 [.cells 109 159] (fun s => zd5 s.1 s.2) default zk0 1 [.cells 109 159] [.pubN 0, .pubB 4] (by decide) (by kernel_rfl) (by rfl) (by decide) (by decide) (by rfl)
    (by rintro ⟨a0, a1⟩; kernel_rfl)
noncomputable def za3y : Code := Tryz.f105.body.getD .skip
def za3z : List (List Nat) := [[1, 2], [1, 2, 5], [1, 2, 5, 11], [1, 5], [5, 19], [4], [5], [4]]
noncomputable def za38 : EnvT := ⟨Tryz.prog, zt [(28, zl9)]⟩
theorem za4c : (za38).Ok := zd ⟨zpc, trivial⟩
def za4d : Ann := ⟨[], [], [], za3z, []⟩
def zq2 (a0 : ze0) (a1 : Bool) : Tr (ByteArray) :=
  (.ite (decide (a0.Got < ((a0.Said.length : Nat) : Int)))
    (.guard ((0 : Int) ≤ a0.Got ∧ a0.Got < ((Sl.len (.strs a0.Said) : Nat) : Int))
    (.ite (!a1)
      (.leaf (a0.Said.getD a0.Got.toNat .empty))
      (.bind (zbl (⟨3, 1, 0, IntKind.i64.wrap (1 + (((a0.Said.getD a0.Got.toNat .empty).size : Nat) : Int)), [], []⟩ : Packet)) fun v1 =>
      (.leaf v1.1))))
    (.ite (!a1)
      (.leaf (⟨#[]⟩ : ByteArray))
      (.bind (zbl (⟨3, 1, 0, IntKind.i64.wrap (1 + (((⟨#[]⟩ : ByteArray).size : Nat) : Int)), [], []⟩ : Packet)) fun v2 =>
      (.leaf v2.1))))
def zos (a0 : ze0) (a1 : Bool) : Option (ByteArray) := (zq2 a0 a1).run
def zau9 : LQ (ze0 × Bool) := (LQ.seq (Par.q (Par.ofLP lineL)) (Par.q boolP))
def z0x : LQ (ByteArray) := (Par.q strP)
def z2q : SpecT := zu 0 zau9 2 [] (fun s => zq2 s.1 s.2) default z0x 1 []
theorem z87 : zh Tryz.prog 105 (z2q).spec :=
  ze (A := za4d) za4c Facts.mix Tryz.func105 (c := za3y) (by kernel_rfl) (Lc := 0) trivial zau9 2 3 [] (fun s => zq2 s.1 s.2) default z0x 1 [] [] (by decide) (by kernel_rfl) (by rfl) (by decide) (by decide) (by rfl)
    (by rintro ⟨a0, a1⟩; kernel_rfl)
noncomputable def zaq8 : Code := Tryz.f64.body.getD .skip
def zava : List (List Nat) := [[0, 2], [0, 2, 3, 4, 5], [0, 2, 3, 4, 5, 21], [2], [0, 2, 3, 4], [0, 2, 3, 4, 28], [0, 2, 3, 4, 28, 29], [0, 2, 3, 4, 6, 28], [0, 2, 3, 4, 28], [0, 2, 3, 4, 28], [2]]
noncomputable def zavb : EnvT := ⟨Tryz.prog, zt [(81, zx5)]⟩
theorem zavc : (zavb).Ok := zd ⟨z4x, trivial⟩
def zbb (x0 : (List Int)) (x1 : Int) (x2 : Wld) (x3 : Reply) (x4 : za) : Tr (((List Int) × Int × Wld × Reply × za) ⊕ ((List Int) × Wld × Reply)) :=
  (.ite (decide (x1 < 2))
    (.guard ((0 : Int) ≤ x1 ∧ (x1 : Int) < 2)
    (.guard ((0 : Int) ≤ x1 ∧ (x1 : Int) < 2)
    (.guard ((0 : Int) ≤ x1 ∧ (x1 : Int) < 2)
    (.guard ((0 : Int) ≤ 0 ∧ (0 : Int) < 2)
    (.leaf (.inl (x0, IntKind.i64.wrap (x1 + 1), { (x2 : Wld) with heads := { (x2.heads : zw5) with PHeight := (x2.heads.PHeight.set x1 x4.Height), PTime := (x2.heads.PTime.set x1 x4.Time), PSaid := (x2.heads.PSaid.set x1 (((x4.Links.Said.get x1).length : Nat) : Int)), PGot := (x2.heads.PGot.set x1 (x2.consumers.Got.get x1)) } }, x3, x4)))))))
    (.leaf (.inr (x0, x2, x3))))
def zey (x0 : (List Int)) (x1 : Int) (x2 : Wld) (x3 : Reply) (x4 : za) : Option ((List Int) × Wld × Reply) := ze1 (fun s : (List Int) × Int × Wld × Reply × za => (zbb s.1 s.2.1 s.2.2.1 s.2.2.2.1 s.2.2.2.2).run) (x0, x1, x2, x3, x4)
def zavd : Ann := ⟨[], [], [], zava, []⟩
def zave : EndD ((List Int) × Int × Wld × Reply × za) := ⟨(LQ.skip (LQ.const (.ptr 0 0)) (LQ.skip (LQ.const (.ptr 1 0)) (LQ.skip (LQ.const (.ptr 2 0)) (LQ.seq (Par.q zg1) (LQ.seq (Par.q intP) (LQ.seq (LP.q zw6) (LQ.seq (LP.q z10) (LP.q providerL)))))))), ⟨[0, 2, 3, 4, 28], [.pub 4, .nilsl 4 (.ints [])]⟩, [.cells 109 159, .cells 29 2, .cells 61 97]⟩
def zal4 : EndD ((List Int) × Wld × Reply) := ⟨(LQ.skip (LQ.const (.ptr 1 0)) (LQ.seq (Par.q zg1) (LQ.seq (LP.q zw6) (LP.q z10)))), ⟨[2, 4], [.pub 4, .nilsl 4 (.ints [])]⟩, [.cells 109 159, .cells 29 2]⟩
def zaoj : St → Option LR := L1 61 5 1 zave (.exit 0) zal4 (fun s => zbb s.1 s.2.1 s.2.2.1 s.2.2.2.1 s.2.2.2.2)
theorem zavf : zv (zavb).env 1 (sub zaq8 [0, 1, 0, 1, 1, 1, 1]) zaoj :=
  zii (A := zavd) zavc Facts.mix trivial (k := zdk (sub zaq8 [0, 1, 0, 1, 1, 1, 1])) (by kernel_rfl) rfl (by rintro ⟨x0, x1, x2, x3, x4⟩; kernel_rfl)
def za4e : Ann := ⟨[([0, 1, 0, 1, 1, 1, 1], zaoj)], [], [], zava, []⟩
def zeq (a0 : Wld) : Tr (Reply × Wld) :=
  (.guard ((zcy a0.p a0.clock).isSome = true)
  (.ite (((zcy a0.p a0.clock).getD default).2.2 != 0)
    (.leaf ((⟨((zcy a0.p a0.clock).getD default).2.2, 0⟩ : Reply), a0))
    (.bind (zey ((zcy a0.p a0.clock).getD default).2.1 0 ({ (a0 : Wld) with p := ((zcy a0.p a0.clock).getD default).1 }) (⟨0, 0⟩ : Reply) ((zcy a0.p a0.clock).getD default).1) fun v1 =>
    (.leaf ((⟨0, ((v1.1.length : Nat) : Int)⟩ : Reply), v1.2.1)))))
def zgp (a0 : Wld) : Option (Reply × Wld) := (zeq a0).run
def zavg : LQ (Wld) := (LQ.skip (LQ.const (.ptr 0 0)) (LP.q zw6))
def zlf : LQ (Reply × Wld) := (LQ.seq (Par.q (Par.ofLP z10)) (LP.q zw6))
def zm2 : SpecT := zu 1 zavg 1 [.cells 109 159] (fun s => zeq s) default zlf 1 [.cells 109 159]
theorem zuk : zh Tryz.prog 64 (zm2).spec :=
  ze (A := za4e) zavc Facts.mix Tryz.func64 (c := zaq8) (by kernel_rfl) (Lc := 1) ⟨zavf, trivial⟩ zavg 1 5 [.cells 109 159] (fun s => zeq s) default zlf 1 [.cells 109 159] [.pubN 0] (by decide) (by kernel_rfl) (by rfl) (by decide) (by decide) (by rfl)
    (by rintro a0; kernel_rfl)
noncomputable def za4f : Code := Tryz.f85.body.getD .skip
def za4g : List (List Nat) := [[0, 3, 4], [0, 3, 4, 5, 6], [0, 3, 4, 5, 6, 7, 8], [0, 3, 4, 5, 6, 7, 8, 37], [0, 3, 4, 5, 6, 7, 8], [0, 3, 4, 5, 6, 7, 8, 9], [0, 3, 4, 5, 6, 7, 9, 10], [0, 3, 4, 5, 6, 7, 9, 10, 66], [4], [0, 3, 4, 5, 6, 7, 9, 70], [0, 4, 5, 7, 11, 12], [0, 4, 5, 7, 11, 12, 83], [4], [4, 7], [4], [4, 5, 6, 7, 10, 13], [4, 5, 6, 7, 10, 13, 106], [4], [4, 7], [4]]
noncomputable def za4h : EnvT := ⟨Tryz.prog, zt [(105, z2q), (106, zxu), (107, zvk), (108, zvd)]⟩
theorem za4i : (za4h).Ok := zd ⟨z87, z4n, z23, z21, trivial⟩
def za4j : Ann := ⟨[], [], [], za4g, []⟩
def zer (a0 : Deed) (a1 : Wld) : Tr (Reply × Wld) :=
  (.guard ((0 : Int) ≤ a0.C ∧ (a0.C : Int) < 2)
  (.guard ((0 : Int) ≤ a0.C ∧ (a0.C : Int) < 2)
  (.ite (a0.Back)
    (.bind (zos (zc a1.consumers a0.C).Out a0.Forged) fun v1 =>
    (.guard ((zi (zc a1.consumers a0.C).Out (IntKind.i64.wrap ((a1.consumers.Got.get a0.C) + 1)) v1 (a1.p.Links.SSaid.get a0.C) a1.clock).isSome = true)
    (.ite (((zi (zc a1.consumers a0.C).Out (IntKind.i64.wrap ((a1.consumers.Got.get a0.C) + 1)) v1 (a1.p.Links.SSaid.get a0.C) a1.clock).getD default).2 != 0)
      (.leaf ((⟨((zi (zc a1.consumers a0.C).Out (IntKind.i64.wrap ((a1.consumers.Got.get a0.C) + 1)) v1 (a1.p.Links.SSaid.get a0.C) a1.clock).getD default).2, 0⟩ : Reply), a1))
      (.ite (a0.Back)
        (.guard ((zbd a1.p a0.C v1).isSome = true)
        (.ite (((zbd a1.p a0.C v1).getD default).2 != 0)
          (.leaf ((⟨((zbd a1.p a0.C v1).getD default).2, 0⟩ : Reply), a1))
          (.leaf ((⟨0, ((zi (zc a1.consumers a0.C).Out (IntKind.i64.wrap ((a1.consumers.Got.get a0.C) + 1)) v1 (a1.p.Links.SSaid.get a0.C) a1.clock).getD default).1.Got⟩ : Reply), { (a1 : Wld) with p := ((zbd a1.p a0.C v1).getD default).1, consumers := { (a1.consumers : zcs) with Said := (a1.consumers.Said.set a0.C ((zi (zc a1.consumers a0.C).Out (IntKind.i64.wrap ((a1.consumers.Got.get a0.C) + 1)) v1 (a1.p.Links.SSaid.get a0.C) a1.clock).getD default).1.Said), Due := (a1.consumers.Due.set a0.C ((zi (zc a1.consumers a0.C).Out (IntKind.i64.wrap ((a1.consumers.Got.get a0.C) + 1)) v1 (a1.p.Links.SSaid.get a0.C) a1.clock).getD default).1.Due), Got := (a1.consumers.Got.set a0.C ((zi (zc a1.consumers a0.C).Out (IntKind.i64.wrap ((a1.consumers.Got.get a0.C) + 1)) v1 (a1.p.Links.SSaid.get a0.C) a1.clock).getD default).1.Got), Closed := (a1.consumers.Closed.set a0.C ((zi (zc a1.consumers a0.C).Out (IntKind.i64.wrap ((a1.consumers.Got.get a0.C) + 1)) v1 (a1.p.Links.SSaid.get a0.C) a1.clock).getD default).1.Closed) } }))))
        (.bind (zi8 (zc a1.consumers a0.C) v1) fun v2 =>
        (.ite (v2.2 != 0)
          (.leaf ((⟨v2.2, 0⟩ : Reply), a1))
          (.leaf ((⟨0, ((zi (zc a1.consumers a0.C).Out (IntKind.i64.wrap ((a1.consumers.Got.get a0.C) + 1)) v1 (a1.p.Links.SSaid.get a0.C) a1.clock).getD default).1.Got⟩ : Reply), { (a1 : Wld) with p := { (a1.p : za) with Links := { (a1.p.Links : Links) with Said := (a1.p.Links.Said.set a0.C ((zi (zc a1.consumers a0.C).Out (IntKind.i64.wrap ((a1.consumers.Got.get a0.C) + 1)) v1 (a1.p.Links.SSaid.get a0.C) a1.clock).getD default).1.Said), Due := (a1.p.Links.Due.set a0.C ((zi (zc a1.consumers a0.C).Out (IntKind.i64.wrap ((a1.consumers.Got.get a0.C) + 1)) v1 (a1.p.Links.SSaid.get a0.C) a1.clock).getD default).1.Due), Got := (a1.p.Links.Got.set a0.C ((zi (zc a1.consumers a0.C).Out (IntKind.i64.wrap ((a1.consumers.Got.get a0.C) + 1)) v1 (a1.p.Links.SSaid.get a0.C) a1.clock).getD default).1.Got), Closed := (a1.p.Links.Closed.set a0.C ((zi (zc a1.consumers a0.C).Out (IntKind.i64.wrap ((a1.consumers.Got.get a0.C) + 1)) v1 (a1.p.Links.SSaid.get a0.C) a1.clock).getD default).1.Closed) } }, consumers := (zpy a1.consumers a0.C v2.1) }))))))))
    (.bind (zos (zm a1.p.Links a0.C).Out a0.Forged) fun v3 =>
    (.guard ((zi (zm a1.p.Links a0.C).Out (IntKind.i64.wrap ((a1.p.Links.Got.get a0.C) + 1)) v3 (a1.consumers.SSaid.get a0.C) a1.clock).isSome = true)
    (.ite (((zi (zm a1.p.Links a0.C).Out (IntKind.i64.wrap ((a1.p.Links.Got.get a0.C) + 1)) v3 (a1.consumers.SSaid.get a0.C) a1.clock).getD default).2 != 0)
      (.leaf ((⟨((zi (zm a1.p.Links a0.C).Out (IntKind.i64.wrap ((a1.p.Links.Got.get a0.C) + 1)) v3 (a1.consumers.SSaid.get a0.C) a1.clock).getD default).2, 0⟩ : Reply), a1))
      (.ite (a0.Back)
        (.guard ((zbd a1.p a0.C v3).isSome = true)
        (.ite (((zbd a1.p a0.C v3).getD default).2 != 0)
          (.leaf ((⟨((zbd a1.p a0.C v3).getD default).2, 0⟩ : Reply), a1))
          (.leaf ((⟨0, ((zi (zm a1.p.Links a0.C).Out (IntKind.i64.wrap ((a1.p.Links.Got.get a0.C) + 1)) v3 (a1.consumers.SSaid.get a0.C) a1.clock).getD default).1.Got⟩ : Reply), { (a1 : Wld) with p := ((zbd a1.p a0.C v3).getD default).1, consumers := { (a1.consumers : zcs) with Said := (a1.consumers.Said.set a0.C ((zi (zm a1.p.Links a0.C).Out (IntKind.i64.wrap ((a1.p.Links.Got.get a0.C) + 1)) v3 (a1.consumers.SSaid.get a0.C) a1.clock).getD default).1.Said), Due := (a1.consumers.Due.set a0.C ((zi (zm a1.p.Links a0.C).Out (IntKind.i64.wrap ((a1.p.Links.Got.get a0.C) + 1)) v3 (a1.consumers.SSaid.get a0.C) a1.clock).getD default).1.Due), Got := (a1.consumers.Got.set a0.C ((zi (zm a1.p.Links a0.C).Out (IntKind.i64.wrap ((a1.p.Links.Got.get a0.C) + 1)) v3 (a1.consumers.SSaid.get a0.C) a1.clock).getD default).1.Got), Closed := (a1.consumers.Closed.set a0.C ((zi (zm a1.p.Links a0.C).Out (IntKind.i64.wrap ((a1.p.Links.Got.get a0.C) + 1)) v3 (a1.consumers.SSaid.get a0.C) a1.clock).getD default).1.Closed) } }))))
        (.bind (zi8 (zc a1.consumers a0.C) v3) fun v4 =>
        (.ite (v4.2 != 0)
          (.leaf ((⟨v4.2, 0⟩ : Reply), a1))
          (.leaf ((⟨0, ((zi (zm a1.p.Links a0.C).Out (IntKind.i64.wrap ((a1.p.Links.Got.get a0.C) + 1)) v3 (a1.consumers.SSaid.get a0.C) a1.clock).getD default).1.Got⟩ : Reply), { (a1 : Wld) with p := { (a1.p : za) with Links := { (a1.p.Links : Links) with Said := (a1.p.Links.Said.set a0.C ((zi (zm a1.p.Links a0.C).Out (IntKind.i64.wrap ((a1.p.Links.Got.get a0.C) + 1)) v3 (a1.consumers.SSaid.get a0.C) a1.clock).getD default).1.Said), Due := (a1.p.Links.Due.set a0.C ((zi (zm a1.p.Links a0.C).Out (IntKind.i64.wrap ((a1.p.Links.Got.get a0.C) + 1)) v3 (a1.consumers.SSaid.get a0.C) a1.clock).getD default).1.Due), Got := (a1.p.Links.Got.set a0.C ((zi (zm a1.p.Links a0.C).Out (IntKind.i64.wrap ((a1.p.Links.Got.get a0.C) + 1)) v3 (a1.consumers.SSaid.get a0.C) a1.clock).getD default).1.Got), Closed := (a1.p.Links.Closed.set a0.C ((zi (zm a1.p.Links a0.C).Out (IntKind.i64.wrap ((a1.p.Links.Got.get a0.C) + 1)) v3 (a1.consumers.SSaid.get a0.C) a1.clock).getD default).1.Closed) } }, consumers := (zpy a1.consumers a0.C v4.1) })))))))))))
def zgq (a0 : Deed) (a1 : Wld) : Option (Reply × Wld) := (zer a0 a1).run
def zavh : LQ (Deed × Wld) := (LQ.skip (LQ.const (.ptr 0 0)) (LQ.seq (Par.q (Par.ofLP deedL)) (LP.q zw6)))
def zlg : LQ (Reply × Wld) := (LQ.seq (Par.q (Par.ofLP z10)) (LP.q zw6))
def zm3 : SpecT := zu 1 zavh 2 [.cells 109 159] (fun s => zer s.1 s.2) default zlg 1 [.cells 109 159]
theorem zul : zh Tryz.prog 85 (zm3).spec :=
  ze (A := za4j) za4i Facts.mix Tryz.func85 (c := za4f) (by kernel_rfl) (Lc := 1) trivial zavh 2 7 [.cells 109 159] (fun s => zer s.1 s.2) default zlg 1 [.cells 109 159] [.pubN 0] (by decide) (by kernel_rfl) (by rfl) (by decide) (by decide) (by rfl)
    (by rintro ⟨a0, a1⟩; kernel_rfl)
noncomputable def za4k : Code := Tryz.f86.body.getD .skip
def za4l : List (List Nat) := [[0, 3, 4], [0, 3, 4, 5, 6], [0, 3, 4, 5, 7, 8], [0, 3, 4, 5, 7, 8, 33], [0, 3, 4, 5, 7, 8], [0, 3, 4, 5, 10], [0, 3, 4, 5, 10, 54], [4], [4, 5], [4], [4]]
noncomputable def za4m : EnvT := ⟨Tryz.prog, zt [(109, z0i), (110, zsg), (111, zsd)]⟩
theorem za4n : (za4m).Ok := zd ⟨z6n, z0w, z0u, trivial⟩
def za4o : Ann := ⟨[], [], [], za4l, []⟩
def ze6 (a0 : Deed) (a1 : Wld) : Tr (Reply × Wld) :=
  (.guard ((0 : Int) ≤ a0.C ∧ (a0.C : Int) < 2)
  (.guard ((0 : Int) ≤ a0.C ∧ (a0.C : Int) < 2)
  (.ite (a0.Back)
    (.bind (zl5 (zc a1.consumers a0.C).Out a0.N (a1.consumers.STime.get a0.C) (a1.consumers.SGot.get a0.C)) fun v1 =>
    (.ite (v1.2 != 0)
      (.leaf ((⟨v1.2, 0⟩ : Reply), a1))
      (.guard ((zdh a1.p a0.C).isSome = true)
      (.bind (zgw (zc a1.consumers a0.C)) fun v2 =>
      (.leaf ((⟨0, 0⟩ : Reply), { (a1 : Wld) with p := ((zdh a1.p a0.C).getD default), consumers := (zpy a1.consumers a0.C v2) }))))))
    (.bind (zl5 (zm a1.p.Links a0.C).Out a0.N (a1.p.Links.STime.get a0.C) (a1.p.Links.SGot.get a0.C)) fun v3 =>
    (.ite (v3.2 != 0)
      (.leaf ((⟨v3.2, 0⟩ : Reply), a1))
      (.guard ((zdh a1.p a0.C).isSome = true)
      (.bind (zgw (zc a1.consumers a0.C)) fun v4 =>
      (.leaf ((⟨0, 0⟩ : Reply), { (a1 : Wld) with p := ((zdh a1.p a0.C).getD default), consumers := (zpy a1.consumers a0.C v4) })))))))))
def zha (a0 : Deed) (a1 : Wld) : Option (Reply × Wld) := (ze6 a0 a1).run
def zavi : LQ (Deed × Wld) := (LQ.skip (LQ.const (.ptr 0 0)) (LQ.seq (Par.q (Par.ofLP deedL)) (LP.q zw6)))
def zm4 : LQ (Reply × Wld) := (LQ.seq (Par.q (Par.ofLP z10)) (LP.q zw6))
def znw : SpecT := zu 1 zavi 2 [.cells 109 159] (fun s => ze6 s.1 s.2) default zm4 1 [.cells 109 159]
theorem zvt : zh Tryz.prog 86 (znw).spec :=
  ze (A := za4o) za4n Facts.mix Tryz.func86 (c := za4k) (by kernel_rfl) (Lc := 1) trivial zavi 2 8 [.cells 109 159] (fun s => ze6 s.1 s.2) default zm4 1 [.cells 109 159] [.pubN 0] (by decide) (by kernel_rfl) (by rfl) (by decide) (by decide) (by rfl)
    (by rintro ⟨a0, a1⟩; kernel_rfl)
noncomputable def za4p : Code := Tryz.f65.body.getD .skip
def za4q : List (List Nat) := [[0, 3, 4], [0, 3, 4, 17], [4], [0, 3, 4, 26], [4], [0, 3, 4, 5], [0, 3, 4, 5, 43], [4], [0, 3, 4, 5, 6], [0, 3, 4, 5, 6, 7], [0, 3, 4, 5, 6, 7, 49], [0, 3, 4, 5, 6, 7, 49, 50], [0, 3, 4, 5, 8, 9], [0, 3, 4, 5, 8, 9, 63], [4], [0, 3, 4, 8], [4, 8], [4], [0, 3, 4, 5, 6, 7, 49, 91], [0, 3, 4, 5, 6, 7], [0, 3, 4, 5, 6, 7, 103], [4, 5, 6, 7], [0, 3, 4, 5, 6, 7, 49, 130], [0, 3, 4, 5, 6, 7, 133], [4, 5, 6, 7], [4, 5, 6, 7], [0, 3, 4, 5, 6, 7, 49, 159], [4], [0, 3, 4, 5, 6, 7, 49, 164], [4], [0, 3, 4, 5, 6, 7, 49, 169], [4, 5, 6, 7], [0, 3, 4, 5, 6, 7, 182], [4, 5, 6, 7], [4, 5, 6, 7, 198], [4], [4], [4]]
noncomputable def za4r : EnvT := ⟨Tryz.prog, zt [(82, zt9), (83, zt5), (84, zx2), (85, zm3), (86, znw), (87, zvg), (88, zsc)]⟩
theorem za4s : (za4r).Ok := zd ⟨z1m, z1l, z4u, zul, zvt, z22, z0t, trivial⟩
def za4t : Ann := ⟨[], [], [], za4q, []⟩
def zes (a0 : Deed) (a1 : Wld) : Tr (Reply × Wld) :=
  (.ite ((decide (a0.Kind < 4)) || (decide (a0.Kind > 12)))
    (.leaf ((⟨3, 0⟩ : Reply), a1))
    (.ite ((decide (a0.C < 0)) || (decide (a0.C ≥ 2)))
      (.leaf ((⟨4, 0⟩ : Reply), a1))
      (.guard ((0 : Int) ≤ a0.C ∧ (a0.C : Int) < 2)
      (.ite ((a0.Kind != 4) && (!(a1.consumers.On.get a0.C)))
        (.leaf ((⟨4, 0⟩ : Reply), a1))
        (.ite (a0.Kind == 4)
          (.guard ((zak a1.p a0.C).isSome = true)
          (.ite (((zak a1.p a0.C).getD default).2 != 0)
            (.leaf ((⟨((zak a1.p a0.C).getD default).2, 0⟩ : Reply), a1))
            (.guard ((zhq ((zak a1.p a0.C).getD default).1.Set ((zak a1.p a0.C).getD default).1.Height a1.clock).isSome = true)
            (.guard ((0 : Int) ≤ a0.C ∧ (a0.C : Int) < 2)
            (.leaf ((⟨0, ((zak a1.p a0.C).getD default).1.Height⟩ : Reply), (⟨a1.clock, ((zak a1.p a0.C).getD default).1, (zpy a1.consumers a0.C ((zhq ((zak a1.p a0.C).getD default).1.Set ((zak a1.p a0.C).getD default).1.Height a1.clock).getD default)), (⟨(a1.heads.PHeight.set a0.C 0), (a1.heads.PTime.set a0.C 0), (a1.heads.PSaid.set a0.C 0), (a1.heads.PGot.set a0.C 0), (a1.heads.CHeight.set a0.C 0), (a1.heads.CTime.set a0.C 0), (a1.heads.CSaid.set a0.C 0), (a1.heads.CGot.set a0.C 0)⟩ : zw5), a1.deeds⟩ : Wld)))))))
          (.ite (a0.Kind == 7)
            (.guard ((zx (zc a1.consumers a0.C) a1.clock).isSome = true)
            (.ite (((zx (zc a1.consumers a0.C) a1.clock).getD default).2 == 0)
              (.guard ((0 : Int) ≤ a0.C ∧ (a0.C : Int) < 2)
              (.guard ((0 : Int) ≤ a0.C ∧ (a0.C : Int) < 2)
              (.guard ((0 : Int) ≤ 1 ∧ (1 : Int) < 2)
              (.ite (((zx (zc a1.consumers a0.C) a1.clock).getD default).2 != 0)
                (.leaf ((⟨((zx (zc a1.consumers a0.C) a1.clock).getD default).2, 0⟩ : Reply), { (a1 : Wld) with heads := { (a1.heads : zw5) with CHeight := (a1.heads.CHeight.set a0.C ((zx (zc a1.consumers a0.C) a1.clock).getD default).1.Height), CTime := (a1.heads.CTime.set a0.C ((zx (zc a1.consumers a0.C) a1.clock).getD default).1.Time), CSaid := (a1.heads.CSaid.set a0.C ((((zx (zc a1.consumers a0.C) a1.clock).getD default).1.Out.Said.length : Nat) : Int)), CGot := (a1.heads.CGot.set a0.C (a1.p.Links.Got.get a0.C)) } }))
                (.leaf ((⟨0, 0⟩ : Reply), { (a1 : Wld) with consumers := (zpy a1.consumers a0.C ((zx (zc a1.consumers a0.C) a1.clock).getD default).1), heads := { (a1.heads : zw5) with CHeight := (a1.heads.CHeight.set a0.C ((zx (zc a1.consumers a0.C) a1.clock).getD default).1.Height), CTime := (a1.heads.CTime.set a0.C ((zx (zc a1.consumers a0.C) a1.clock).getD default).1.Time), CSaid := (a1.heads.CSaid.set a0.C ((((zx (zc a1.consumers a0.C) a1.clock).getD default).1.Out.Said.length : Nat) : Int)), CGot := (a1.heads.CGot.set a0.C (a1.p.Links.Got.get a0.C)) } }))))))
              (.ite (((zx (zc a1.consumers a0.C) a1.clock).getD default).2 != 0)
                (.leaf ((⟨((zx (zc a1.consumers a0.C) a1.clock).getD default).2, 0⟩ : Reply), a1))
                (.leaf ((⟨0, 0⟩ : Reply), { (a1 : Wld) with consumers := (zpy a1.consumers a0.C ((zx (zc a1.consumers a0.C) a1.clock).getD default).1) })))))
            (.ite (a0.Kind == 8)
              (.ite (a0.Back)
                (.guard ((0 : Int) ≤ a0.C ∧ (a0.C : Int) < 2)
                (.guard ((0 : Int) ≤ 1 ∧ (1 : Int) < 2)
                (.guard ((0 : Int) ≤ a0.C ∧ (a0.C : Int) < 2)
                (.ite (false)
                  (.leaf ((⟨0, 0⟩ : Reply), { (a1 : Wld) with p := { (a1.p : za) with Links := { (a1.p.Links : Links) with SHeight := (a1.p.Links.SHeight.set a0.C (a1.heads.CHeight.get a0.C)), STime := (a1.p.Links.STime.set a0.C (a1.heads.CTime.get a0.C)), SSaid := (a1.p.Links.SSaid.set a0.C (a1.heads.CSaid.get a0.C)), SGot := (a1.p.Links.SGot.set a0.C (a1.heads.CGot.get a0.C)) } } }))
                  (.leaf ((⟨0, 0⟩ : Reply), { (a1 : Wld) with p := { (a1.p : za) with Links := { (a1.p.Links : Links) with SHeight := (a1.p.Links.SHeight.set a0.C (a1.heads.CHeight.get a0.C)), STime := (a1.p.Links.STime.set a0.C (a1.heads.CTime.get a0.C)), SSaid := (a1.p.Links.SSaid.set a0.C (a1.heads.CSaid.get a0.C)), SGot := (a1.p.Links.SGot.set a0.C (a1.heads.CGot.get a0.C)) } }, consumers := (zpy a1.consumers a0.C (zc a1.consumers a0.C)) }))))))
                (.guard ((0 : Int) ≤ a0.C ∧ (a0.C : Int) < 2)
                (.guard ((0 : Int) ≤ 0 ∧ (0 : Int) < 2)
                (.ite (false)
                  (.leaf ((⟨0, 0⟩ : Reply), a1))
                  (.leaf ((⟨0, 0⟩ : Reply), { (a1 : Wld) with consumers := (zpy a1.consumers a0.C ({ ((zc a1.consumers a0.C) : zb) with Seen := (⟨a1.heads.PHeight.get a0.C, a1.heads.PTime.get a0.C, a1.heads.PSaid.get a0.C, a1.heads.PGot.get a0.C⟩ : z75) })) }))))))
              (.ite (a0.Kind == 9)
                (.bind (zgq a0 a1) fun v1 =>
                (.leaf (v1.1, v1.2)))
                (.ite (a0.Kind == 10)
                  (.bind (zha a0 a1) fun v2 =>
                  (.leaf (v2.1, v2.2)))
                  (.ite (a0.Kind == 11)
                    (.guard ((zeh (zc a1.consumers a0.C) a0.V a1.clock).isSome = true)
                    (.ite (((zeh (zc a1.consumers a0.C) a0.V a1.clock).getD default).2 != 0)
                      (.leaf ((⟨((zeh (zc a1.consumers a0.C) a0.V a1.clock).getD default).2, 0⟩ : Reply), a1))
                      (.leaf ((⟨0, 0⟩ : Reply), { (a1 : Wld) with consumers := (zpy a1.consumers a0.C ((zeh (zc a1.consumers a0.C) a0.V a1.clock).getD default).1) }))))
                    (.ite (a0.Kind == 12)
                      (.guard ((zdf (zc a1.consumers a0.C) a0.V a0.N a1.clock).isSome = true)
                      (.ite (((zdf (zc a1.consumers a0.C) a0.V a0.N a1.clock).getD default).2 != 0)
                        (.leaf ((⟨((zdf (zc a1.consumers a0.C) a0.V a0.N a1.clock).getD default).2, 0⟩ : Reply), a1))
                        (.leaf ((⟨0, 0⟩ : Reply), { (a1 : Wld) with consumers := (zpy a1.consumers a0.C ((zdf (zc a1.consumers a0.C) a0.V a0.N a1.clock).getD default).1) }))))
                      (.ite (false)
                        (.leaf ((⟨0, 0⟩ : Reply), a1))
                        (.leaf ((⟨0, 0⟩ : Reply), { (a1 : Wld) with consumers := (zpy a1.consumers a0.C (zc a1.consumers a0.C)) }))))))))))))))
def zgr (a0 : Deed) (a1 : Wld) : Option (Reply × Wld) := (zes a0 a1).run
def zavj : LQ (Deed × Wld) := (LQ.skip (LQ.const (.ptr 0 0)) (LQ.seq (Par.q (Par.ofLP deedL)) (LP.q zw6)))
def zlh : LQ (Reply × Wld) := (LQ.seq (Par.q (Par.ofLP z10)) (LP.q zw6))
def zm5 : SpecT := zu 1 zavj 2 [.cells 109 159] (fun s => zes s.1 s.2) default zlh 1 [.cells 109 159]
theorem zum : zh Tryz.prog 65 (zm5).spec :=
  ze (A := za4t) za4s Facts.mix Tryz.func65 (c := za4p) (by kernel_rfl) (Lc := 1) trivial zavj 2 7 [.cells 109 159] (fun s => zes s.1 s.2) default zlh 1 [.cells 109 159] [.pubN 0] (by decide) (by kernel_rfl) (by rfl) (by decide) (by decide) (by rfl)
    (by rintro ⟨a0, a1⟩; kernel_rfl)
noncomputable def za4u : Code := Tryz.f29.body.getD .skip
def za4v : List (List Nat) := [[0, 3, 4], [0, 3, 4, 7], [4], [0, 3, 4, 11], [4], [0, 3, 4], [0, 3, 4], [0, 3, 4, 6], [0, 3, 4, 6, 30], [4], [0, 3, 4, 6, 30, 34], [0, 4, 5, 6], [0, 3, 4, 6, 30, 47], [0, 4, 5, 6], [0, 3, 4, 6, 30, 64], [0, 4, 5, 6], [0, 3, 4, 6, 30, 75], [0, 4, 5, 6], [0, 3, 4, 30, 86], [0, 3, 4, 100], [4], [0, 4], [4], [0, 3, 4, 116], [4], [0, 4, 5, 6, 121], [4], [4], [4]]
noncomputable def za4w : EnvT := ⟨Tryz.prog, zt [(60, zpm), (61, zm0), (62, zx0), (63, zpn), (64, zm2), (65, zm5)]⟩
theorem za4x : (za4w).Ok := zd ⟨zw8, zuj, z4s, zw9, zuk, zum, trivial⟩
def za4y : Ann := ⟨[], [], [[1, 0, 0, 1]], za4v, []⟩
def zjc (a0 : Deed) (a1 : Wld) : Tr (Reply × Wld) :=
  (.ite (decide (a1.deeds ≥ 600))
    (.leaf ((⟨6, 0⟩ : Reply), a1))
    (.ite (a0.Kind == 1)
      (.bind (zid a1.p a0.D a0.V a0.N) fun v1 =>
      (.ite (v1.2 != 0)
        (.leaf ((⟨v1.2, 0⟩ : Reply), { (a1 : Wld) with deeds := IntKind.i64.wrap (a1.deeds + 1) }))
        (.leaf ((⟨0, 0⟩ : Reply), { (a1 : Wld) with p := v1.1, deeds := IntKind.i64.wrap (a1.deeds + 1) }))))
      (.ite (a0.Kind == 2)
        (.guard ((zbk a1.p a0.D a0.V a0.N a1.clock).isSome = true)
        (.ite (((zbk a1.p a0.D a0.V a0.N a1.clock).getD default).2 != 0)
          (.leaf ((⟨((zbk a1.p a0.D a0.V a0.N a1.clock).getD default).2, 0⟩ : Reply), { (a1 : Wld) with deeds := IntKind.i64.wrap (a1.deeds + 1) }))
          (.leaf ((⟨0, 0⟩ : Reply), { (a1 : Wld) with p := ((zbk a1.p a0.D a0.V a0.N a1.clock).getD default).1, deeds := IntKind.i64.wrap (a1.deeds + 1) }))))
        (.ite (a0.Kind == 3)
          (.bind (zpg a1.p.Stake a0.V) fun v2 =>
          (.ite (v2.2 != 0)
            (.leaf ((⟨v2.2, 0⟩ : Reply), { (a1 : Wld) with deeds := IntKind.i64.wrap (a1.deeds + 1) }))
            (.leaf ((⟨0, 0⟩ : Reply), { (a1 : Wld) with p := { (a1.p : za) with Stake := v2.1 }, deeds := IntKind.i64.wrap (a1.deeds + 1) }))))
          (.ite (a0.Kind == 13)
            (.bind (zif a1.p a0.V a0.N) fun v3 =>
            (.ite (v3.2 != 0)
              (.leaf ((⟨v3.2, 0⟩ : Reply), { (a1 : Wld) with deeds := IntKind.i64.wrap (a1.deeds + 1) }))
              (.leaf ((⟨0, 0⟩ : Reply), { (a1 : Wld) with p := v3.1, deeds := IntKind.i64.wrap (a1.deeds + 1) }))))
            (.ite (a0.Kind == 5)
              (.ite ((decide (a0.N < 1)) || (decide (a0.N > (IntKind.i64.wrap (1099511627736 - a1.clock)))))
                (.leaf ((⟨2, 0⟩ : Reply), { (a1 : Wld) with deeds := IntKind.i64.wrap (a1.deeds + 1) }))
                (.leaf ((⟨0, IntKind.i64.wrap (a1.clock + a0.N)⟩ : Reply), { (a1 : Wld) with clock := IntKind.i64.wrap (a1.clock + a0.N), deeds := IntKind.i64.wrap (a1.deeds + 1) })))
              (.ite (a0.Kind == 6)
                (.bind (zgp ({ (a1 : Wld) with deeds := IntKind.i64.wrap (a1.deeds + 1) })) fun v4 =>
                (.leaf (v4.1, v4.2)))
                (.bind (zgr a0 ({ (a1 : Wld) with deeds := IntKind.i64.wrap (a1.deeds + 1) })) fun v5 =>
                (.leaf (v5.1, v5.2))))))))))
def zcm (a0 : Deed) (a1 : Wld) : Option (Reply × Wld) := (zjc a0 a1).run
def zavk : LQ (Deed × Wld) := (LQ.skip (LQ.const (.ptr 0 0)) (LQ.seq (Par.q (Par.ofLP deedL)) (LP.q zw6)))
def zsh : LQ (Reply × Wld) := (LQ.seq (Par.q (Par.ofLP z10)) (LP.q zw6))
def znl : SpecT := zu 1 zavk 2 [.cells 109 159] (fun s => zjc s.1 s.2) default zsh 1 [.cells 109 159]
theorem zsi : zh Tryz.prog 29 (znl).spec :=
  ze (A := za4y) za4x Facts.mix Tryz.func29 (c := za4u) (by kernel_rfl) (Lc := 1) trivial zavk 2 6 [.cells 109 159] (fun s => zjc s.1 s.2) default zsh 1 [.cells 109 159] [.pubN 0] (by decide) (by kernel_rfl) (by rfl) (by decide) (by decide) (by rfl)
    (by rintro ⟨a0, a1⟩; kernel_rfl)
end
end Go.Proofs.YtmakmlnfbdablaaGreat.Ab
