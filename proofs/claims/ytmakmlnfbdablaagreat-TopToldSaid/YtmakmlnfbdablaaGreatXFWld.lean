/-
  The functions, each by its tree.
-/
import Derived.Test.YtmakmlnfbdablaaGreatXAbFun
import Derived.Test.YtmakmlnfbdablaaGreatXAbStructs
import Derived.Test.YtmakmlnfbdablaaGreatXFBank
import Derived.Test.YtmakmlnfbdablaaGreatXFCodec
import Derived.Test.YtmakmlnfbdablaaGreatXFCons
import Derived.Test.YtmakmlnfbdablaaGreatXFLine
import Derived.Test.YtmakmlnfbdablaaGreatXFProv
import Derived.Test.YtmakmlnfbdablaaGreatXFStakeA
import Derived.Test.YtmakmlnfbdablaaGreatXFStakeB
import Derived.Test.YtmakmlnfbdablaaGreatXFacts
namespace Go.Proofs.YtmakmlnfbdablaaGreat.Ab
open Go Go.RowKit
set_option maxRecDepth 100000
set_option linter.unusedVariables false
set_option linter.unusedSimpArgs false
noncomputable section
noncomputable def za7b : Code := Tryz.f43.body.getD .skip
def za7c : List (List Nat) := [[], [0]]
noncomputable def za7d : EnvT := ⟨Tryz.prog, zr [(31, zzb)]⟩
theorem za7e : (za7d).Ok := ze ⟨z5y, trivial⟩
def za7f : Ann := ⟨[], [], [], za7c, []⟩
def zuc  : Tr (Wld) :=
  (.bind (zqa) fun v1 =>
  (.leaf (⟨0, v1, (default : zcw), (default : zx4), 0⟩ : Wld)))
def zno  : Option (Wld) := (zuc ).run
def zaw8 : LQ (Unit) := LQ.nil
def z3g : LQ (Wld) := (LQ.skip (LQ.const (.ptr 0 0)) (LP.q zn0))
def zud : SpecT := zv 0 zaw8 0 [] (fun s => zuc ) default z3g 1 [.cells 109 159]
theorem zw0 : zi Tryz.prog 43 (zud).spec :=
  zf (A := za7f) za7e Facts.mix Tryz.func43 (c := za7b) (by kernel_rfl) (Lc := 0) trivial zaw8 0 3 [] (fun s => zuc ) default z3g 1 [.cells 109 159] [.pubB 0] (by decide) (by kernel_rfl) (by rfl) (by decide) (by decide) (by rfl)
    (by rintro _; kernel_rfl)
noncomputable def za7g : Code := Tryz.f40.body.getD .skip
def za7h : List (List Nat) := [[0], [0, 4], [2], [2]]
noncomputable def za7i : EnvT := ⟨Tryz.prog, zr []⟩
theorem za7j : (za7i).Ok := ze trivial
def za7k : Ann := ⟨[], [], [[1, 0, 1]], za7h, []⟩
def zgi (a0 : Wld) : Tr (Int × Wld) :=
  (.leaf (a0.clock, a0))
def ziv (a0 : Wld) : Option (Int × Wld) := (zgi a0).run
def zaw9 : LQ (Wld) := (LQ.skip (LQ.const (.ptr 0 0)) (LP.q zn0))
def zoi : LQ (Int × Wld) := (LQ.seq (Par.q intP) (LP.q zn0))
def zqg : SpecT := zv 1 zaw9 1 [.cells 109 159] (fun s => zgi s) default zoi 1 [.cells 109 159]
theorem zx9 : zi Tryz.prog 40 (zqg).spec :=
  zf (A := za7k) za7j Facts.mix Tryz.func40 (c := za7g) (by kernel_rfl) (Lc := 1) trivial zaw9 1 3 [.cells 109 159] (fun s => zgi s) default zoi 1 [.cells 109 159] [.pubN 0] (by decide) (by kernel_rfl) (by rfl) (by decide) (by decide) (by rfl)
    (by rintro a0; kernel_rfl)
noncomputable def za7l : Code := Tryz.f46.body.getD .skip
def za7m : List (List Nat) := [[0], [2]]
noncomputable def za7n : EnvT := ⟨Tryz.prog, zr []⟩
theorem za7o : (za7n).Ok := ze trivial
def za7p : Ann := ⟨[], [], [], za7m, []⟩
def zm3 (a0 : (List Power)) : Tr ((List Power)) :=
  (.guard ((0 + Sl.len (.powers a0)) * 16 ≤ 140737488355328)
  (.leaf a0))
def zb8 (a0 : (List Power)) : Option ((List Power)) := (zm3 a0).run
def zaxa : LQ ((List Power)) := (Par.q zm)
def zw1 : LQ ((List Power)) := (Par.q zm)
def zm4 : SpecT := zv 0 zaxa 1 [] (fun s => zm3 s) default zw1 1 []
theorem zqh : zi Tryz.prog 46 (zm4).spec :=
  zf (A := za7p) za7o Facts.mix Tryz.func46 (c := za7l) (by kernel_rfl) (Lc := 0) trivial zaxa 1 3 [] (fun s => zm3 s) default zw1 1 [] [.pub 2] (by decide) (by kernel_rfl) (by rfl) (by decide) (by decide) (by rfl)
    (by rintro a0; kernel_rfl)
noncomputable def za7q : Code := Tryz.f47.body.getD .skip
def za7r : List (List Nat) := [[0], [2]]
noncomputable def za7s : EnvT := ⟨Tryz.prog, zr []⟩
theorem za7t : (za7s).Ok := ze trivial
def za7u : Ann := ⟨[], [], [], za7r, []⟩
def zlc (a0 : (List Int)) : Tr ((List Int)) :=
  (.guard ((0 + Sl.len (.ints a0)) * 8 ≤ 140737488355328)
  (.leaf a0))
def zcf (a0 : (List Int)) : Option ((List Int)) := (zlc a0).run
def zaxb : LQ ((List Int)) := (Par.q zhg)
def zu8 : LQ ((List Int)) := (Par.q zhg)
def zld : SpecT := zv 0 zaxb 1 [] (fun s => zlc s) default zu8 1 []
theorem zn9 : zi Tryz.prog 47 (zld).spec :=
  zf (A := za7u) za7t Facts.mix Tryz.func47 (c := za7q) (by kernel_rfl) (Lc := 0) trivial zaxb 1 3 [] (fun s => zlc s) default zu8 1 [] [.pub 2] (by decide) (by kernel_rfl) (by rfl) (by decide) (by decide) (by rfl)
    (by rintro a0; kernel_rfl)
noncomputable def za7v : Code := Tryz.f49.body.getD .skip
def za7w : List (List Nat) := [[1, 2], [1, 2], [2]]
noncomputable def za7x : EnvT := ⟨Tryz.prog, zr [(46, zm4), (47, zld)]⟩
theorem za7y : (za7x).Ok := ze ⟨zqh, zn9, trivial⟩
def za7z : Ann := ⟨[], [], [], za7w, []⟩
def zm5 (a0 : Packet) : Tr (Packet) :=
  (.guard ((zb8 a0.Set).isSome = true)
  (.guard ((zcf a0.Done).isSome = true)
  (.leaf ({ (a0 : Packet) with Set := ((zb8 a0.Set).getD default), Done := ((zcf a0.Done).getD default) }))))
def zf0 (a0 : Packet) : Option (Packet) := (zm5 a0).run
def zaxc : LQ (Packet) := (Par.q (Par.ofLP zl0))
def zw2 : LQ (Packet) := (Par.q (Par.ofLP zl0))
def zsk : SpecT := zv 0 zaxc 1 [] (fun s => zm5 s) default zw2 1 []
theorem zw3 : zi Tryz.prog 49 (zsk).spec :=
  zf (A := za7z) za7y Facts.mix Tryz.func49 (c := za7v) (by kernel_rfl) (Lc := 0) trivial zaxc 1 4 [] (fun s => zm5 s) default zw2 1 [] [.pubB 2] (by decide) (by kernel_rfl) (by rfl) (by decide) (by decide) (by rfl)
    (by rintro a0; kernel_rfl)
noncomputable def za8b : Code := Tryz.f48.body.getD .skip
def za8c : List (List Nat) := [[1, 2], [1, 2], [2]]
noncomputable def za8d : EnvT := ⟨Tryz.prog, zr [(47, zld)]⟩
theorem za8e : (za8d).Ok := ze ⟨zn9, trivial⟩
def za8f : Ann := ⟨[], [], [], za8c, []⟩
def zle (a0 : zeg) : Tr (zeg) :=
  (.guard ((0 + Sl.len (.strs a0.Said)) * 16 ≤ 140737488355328)
  (.guard ((zcf a0.Due).isSome = true)
  (.leaf ({ (a0 : zeg) with Due := ((zcf a0.Due).getD default) }))))
def zbv (a0 : zeg) : Option (zeg) := (zle a0).run
def zaxd : LQ (zeg) := (Par.q (Par.ofLP lineL))
def zu9 : LQ (zeg) := (Par.q (Par.ofLP lineL))
def zqi : SpecT := zv 0 zaxd 1 [] (fun s => zle s) default zu9 1 []
theorem zva : zi Tryz.prog 48 (zqi).spec :=
  zf (A := za8f) za8e Facts.mix Tryz.func48 (c := za8b) (by kernel_rfl) (Lc := 0) trivial zaxd 1 5 [] (fun s => zle s) default zu9 1 [] [.pubB 2] (by decide) (by kernel_rfl) (by rfl) (by decide) (by decide) (by rfl)
    (by rintro a0; kernel_rfl)
noncomputable def zakw : Code := Tryz.f19.body.getD .skip
def zatd : List (List Nat) := [[0, 2], [0, 2, 10], [2], [2, 3], [2, 3], [2, 3], [2, 3, 26], [2, 3, 26, 27], [2, 3, 4, 26], [2, 3, 5, 26], [2, 3, 26], [2, 3, 26], [2, 3, 6], [2, 3, 6, 58, 59, 60], [2, 3, 6, 58, 59, 60, 61], [2, 3, 6, 8, 58, 59, 60], [2, 3, 6, 58, 59, 60], [2, 3, 6, 58, 59, 60], [2, 3], [2]]
noncomputable def zate : EnvT := ⟨Tryz.prog, zr [(46, zm4), (47, zld), (48, zqi), (49, zsk)]⟩
theorem zatf : (zate).Ok := ze ⟨zqh, zn9, zva, zw3, trivial⟩
def zas (x0 : Int) (x1 : Wld) (x2 : za) (x3 : za) : Tr ((Int × Wld × za × za) ⊕ (Wld × za × za)) :=
  (.ite (decide (x0 < 2))
    (.guard ((0 : Int) ≤ x0 ∧ (x0 : Int) < 2)
    (.guard ((zb8 (x3.Links.Told.get x0)).isSome = true)
    (.guard ((zcf (x3.Links.Done.get x0)).isSome = true)
    (.guard ((zbv (zh x3.Links x0).Out).isSome = true)
    (.leaf (.inl (IntKind.i64.wrap (x0 + 1), x1, x2, { (x3 : za) with Links := { (x3.Links : Links) with Told := (x3.Links.Told.set x0 ((zb8 (x3.Links.Told.get x0)).getD default)), Done := (x3.Links.Done.set x0 ((zcf (x3.Links.Done.get x0)).getD default)), Said := (x3.Links.Said.set x0 ((zbv (zh x3.Links x0).Out).getD default).Said), Due := (x3.Links.Due.set x0 ((zbv (zh x3.Links x0).Out).getD default).Due), Got := (x3.Links.Got.set x0 ((zbv (zh x3.Links x0).Out).getD default).Got), Closed := (x3.Links.Closed.set x0 ((zbv (zh x3.Links x0).Out).getD default).Closed) } })))))))
    (.leaf (.inr (x1, x2, x3))))
def zem (x0 : Int) (x1 : Wld) (x2 : za) (x3 : za) : Option (Wld × za × za) := zeh (fun s : Int × Wld × za × za => (zas s.1 s.2.1 s.2.2.1 s.2.2.2).run) (x0, x1, x2, x3)
def zaxe : Ann := ⟨[], [], [], zatd, []⟩
def zaxf : EndD (Int × Wld × za × za) := ⟨(LQ.map (LQ.skip (LQ.const (.ptr 1 0)) (LQ.skip (LQ.const (.ptr 2 0)) (LQ.seq (Par.q intP) (LQ.seq (LP.q zn0) (LQ.seq (LP.q providerL) (LQ.seq (Par.q intP) (LQ.seq (Par.q intP) (LQ.seq (LP.q bankL) (LQ.seq (LP.q validatorsL) (LQ.seq (LP.q (a4L (a6L (LP.one intP)))) (LQ.skip (LQ.const (.own 3)) (LQ.seq (Par.q intP) (LQ.seq (Par.q zm) (LQ.seq (LP.q linksL) (LQ.seq (LP.q meterL) (LQ.seq (Par.q zfl) (Par.q znf))))))))))))))))) (fun x : Int × Wld × za × Int × Int × Bank × Validators × (A4 (A6 Int)) × Int × (List Power) × Links × Meter × (List Asked) × (List Wait) => ((x.1, x.2.1, x.2.2.1, (⟨x.2.2.2.1, x.2.2.2.2.1, (⟨x.2.2.2.2.2.1, x.2.2.2.2.2.2.1, x.2.2.2.2.2.2.2.1, x.2.2.2.2.2.2.2.2.2.2.2.2.2, x.2.2.2.2.2.2.2.2.1⟩ : Stake), x.2.2.2.2.2.2.2.2.2.1, x.2.2.2.2.2.2.2.2.2.2.1, x.2.2.2.2.2.2.2.2.2.2.2.1, x.2.2.2.2.2.2.2.2.2.2.2.2.1⟩ : za)) : Int × Wld × za × za)) (fun y => (y.1, y.2.1, y.2.2.1, y.2.2.2.Height, y.2.2.2.Time, y.2.2.2.Stake.Bank, y.2.2.2.Stake.Validators, y.2.2.2.Stake.Shares, y.2.2.2.Stake.Next, y.2.2.2.Set, y.2.2.2.Links, y.2.2.2.Meter, y.2.2.2.Queue, y.2.2.2.Stake.Waits)) (fun _ => rfl)), ⟨[2, 3, 26], [.nilcell 3 63 98 (.waits [])]⟩, [.cells 109 159, .cells 61 97, .cells 61 97, .rows 98]⟩
def zanv : EndD (Wld × za × za) := ⟨(LQ.map (LQ.skip (LQ.const (.ptr 1 0)) (LQ.skip (LQ.const (.ptr 2 0)) (LQ.seq (LP.q zn0) (LQ.seq (LP.q providerL) (LQ.seq (Par.q intP) (LQ.seq (Par.q intP) (LQ.seq (LP.q bankL) (LQ.seq (LP.q validatorsL) (LQ.seq (LP.q (a4L (a6L (LP.one intP)))) (LQ.skip (LQ.const (.own 3)) (LQ.seq (Par.q intP) (LQ.seq (Par.q zm) (LQ.seq (LP.q linksL) (LQ.seq (LP.q meterL) (LQ.seq (Par.q zfl) (Par.q znf)))))))))))))))) (fun x : Wld × za × Int × Int × Bank × Validators × (A4 (A6 Int)) × Int × (List Power) × Links × Meter × (List Asked) × (List Wait) => ((x.1, x.2.1, (⟨x.2.2.1, x.2.2.2.1, (⟨x.2.2.2.2.1, x.2.2.2.2.2.1, x.2.2.2.2.2.2.1, x.2.2.2.2.2.2.2.2.2.2.2.2, x.2.2.2.2.2.2.2.1⟩ : Stake), x.2.2.2.2.2.2.2.2.1, x.2.2.2.2.2.2.2.2.2.1, x.2.2.2.2.2.2.2.2.2.2.1, x.2.2.2.2.2.2.2.2.2.2.2.1⟩ : za)) : Wld × za × za)) (fun y => (y.1, y.2.1, y.2.2.Height, y.2.2.Time, y.2.2.Stake.Bank, y.2.2.Stake.Validators, y.2.2.Stake.Shares, y.2.2.Stake.Next, y.2.2.Set, y.2.2.Links, y.2.2.Meter, y.2.2.Queue, y.2.2.Stake.Waits)) (fun _ => rfl)), ⟨[2, 3], [.nilcell 3 63 98 (.waits [])]⟩, [.cells 109 159, .cells 61 97, .cells 61 97, .rows 98]⟩
def zaqm : St → Option LR := L1 77 10 1 zaxf (.exit 0) zanv (fun s => zas s.1 s.2.1 s.2.2.1 s.2.2.2)
theorem zaxg : zq (zate).env 1 (sub zakw [0, 1, 0, 1, 1, 1, 1, 1]) zaqm :=
  ziy (A := zaxe) zatf Facts.mix trivial (k := zci (sub zakw [0, 1, 0, 1, 1, 1, 1, 1])) (by kernel_rfl) rfl (by rintro ⟨x0, x1, x2, x3⟩; kernel_rfl)
def zbp (x0 : (List Asked)) (x1 : Int) (x2 : Int) (x3 : Wld) (x4 : za) (x5 : za) (x6 : (List Asked)) : Tr (((List Asked) × Int × Int × Wld × za × za × (List Asked)) ⊕ (Wld × za × za × (List Asked))) :=
  (.ite (decide (x2 < x1))
    (.guard ((0 : Int) ≤ x2 ∧ x2 < ((Sl.len (.asked x0) : Nat) : Int))
    (.guard ((zf0 (x0.getD x2.toNat default).P).isSome = true)
    (.guard ((Sl.len (.asked x6) + Sl.len (.asked [(⟨(x0.getD x2.toNat default).C, ((zf0 (x0.getD x2.toNat default).P).getD default)⟩ : Asked)])) * 88 ≤ 140737488355328)
    (.leaf (.inl (x0, x1, IntKind.i64.wrap (x2 + 1), x3, x4, x5, x6 ++ [(⟨(x0.getD x2.toNat default).C, ((zf0 (x0.getD x2.toNat default).P).getD default)⟩ : Asked)]))))))
    (.leaf (.inr (x3, x4, x5, x6))))
def zen (x0 : (List Asked)) (x1 : Int) (x2 : Int) (x3 : Wld) (x4 : za) (x5 : za) (x6 : (List Asked)) : Option (Wld × za × za × (List Asked)) := zeh (fun s : (List Asked) × Int × Int × Wld × za × za × (List Asked) => (zbp s.1 s.2.1 s.2.2.1 s.2.2.2.1 s.2.2.2.2.1 s.2.2.2.2.2.1 s.2.2.2.2.2.2).run) (x0, x1, x2, x3, x4, x5, x6)
def zaxh : Ann := ⟨[], [], [], zatd, []⟩
def zaxi : EndD ((List Asked) × Int × Int × Wld × za × za × (List Asked)) := ⟨(LQ.map (LQ.skip (LQ.const (.ptr 1 0)) (LQ.skip (LQ.const (.ptr 2 0)) (LQ.skip (LQ.const (.own 3)) (LQ.seq (Par.q zfl) (LQ.seq (Par.q intP) (LQ.seq (Par.q intP) (LQ.seq (LP.q zn0) (LQ.seq (LP.q providerL) (LQ.seq (Par.q intP) (LQ.seq (Par.q intP) (LQ.seq (LP.q bankL) (LQ.seq (LP.q validatorsL) (LQ.seq (LP.q (a4L (a6L (LP.one intP)))) (LQ.skip (LQ.const (.own 4)) (LQ.seq (Par.q intP) (LQ.seq (Par.q zm) (LQ.seq (LP.q linksL) (LQ.seq (LP.q meterL) (LQ.seq (Par.q zfl) (LQ.seq (Par.q zfl) (Par.q znf))))))))))))))))))))) (fun x : (List Asked) × Int × Int × Wld × za × Int × Int × Bank × Validators × (A4 (A6 Int)) × Int × (List Power) × Links × Meter × (List Asked) × (List Asked) × (List Wait) => ((x.1, x.2.1, x.2.2.1, x.2.2.2.1, x.2.2.2.2.1, (⟨x.2.2.2.2.2.1, x.2.2.2.2.2.2.1, (⟨x.2.2.2.2.2.2.2.1, x.2.2.2.2.2.2.2.2.1, x.2.2.2.2.2.2.2.2.2.1, x.2.2.2.2.2.2.2.2.2.2.2.2.2.2.2.2, x.2.2.2.2.2.2.2.2.2.2.1⟩ : Stake), x.2.2.2.2.2.2.2.2.2.2.2.1, x.2.2.2.2.2.2.2.2.2.2.2.2.1, x.2.2.2.2.2.2.2.2.2.2.2.2.2.1, x.2.2.2.2.2.2.2.2.2.2.2.2.2.2.1⟩ : za), x.2.2.2.2.2.2.2.2.2.2.2.2.2.2.2.1) : (List Asked) × Int × Int × Wld × za × za × (List Asked))) (fun y => (y.1, y.2.1, y.2.2.1, y.2.2.2.1, y.2.2.2.2.1, y.2.2.2.2.2.1.Height, y.2.2.2.2.2.1.Time, y.2.2.2.2.2.1.Stake.Bank, y.2.2.2.2.2.1.Stake.Validators, y.2.2.2.2.2.1.Stake.Shares, y.2.2.2.2.2.1.Stake.Next, y.2.2.2.2.2.1.Set, y.2.2.2.2.2.1.Links, y.2.2.2.2.2.1.Meter, y.2.2.2.2.2.1.Queue, y.2.2.2.2.2.2, y.2.2.2.2.2.1.Stake.Waits)) (fun _ => rfl)), ⟨[2, 3, 6, 58, 59, 60], [.nilcell 3 63 98 (.waits []), .nilown 6 101 (.asked []), .pub 58, .nilsl 58 (.asked [])]⟩, [.cells 109 159, .cells 61 97, .cells 61 97, .rows 101, .rows 98]⟩
def zanw : EndD (Wld × za × za × (List Asked)) := ⟨(LQ.map (LQ.skip (LQ.const (.ptr 1 0)) (LQ.skip (LQ.const (.ptr 2 0)) (LQ.skip (LQ.const (.own 3)) (LQ.seq (LP.q zn0) (LQ.seq (LP.q providerL) (LQ.seq (Par.q intP) (LQ.seq (Par.q intP) (LQ.seq (LP.q bankL) (LQ.seq (LP.q validatorsL) (LQ.seq (LP.q (a4L (a6L (LP.one intP)))) (LQ.skip (LQ.const (.own 4)) (LQ.seq (Par.q intP) (LQ.seq (Par.q zm) (LQ.seq (LP.q linksL) (LQ.seq (LP.q meterL) (LQ.seq (Par.q zfl) (LQ.seq (Par.q zfl) (Par.q znf)))))))))))))))))) (fun x : Wld × za × Int × Int × Bank × Validators × (A4 (A6 Int)) × Int × (List Power) × Links × Meter × (List Asked) × (List Asked) × (List Wait) => ((x.1, x.2.1, (⟨x.2.2.1, x.2.2.2.1, (⟨x.2.2.2.2.1, x.2.2.2.2.2.1, x.2.2.2.2.2.2.1, x.2.2.2.2.2.2.2.2.2.2.2.2.2, x.2.2.2.2.2.2.2.1⟩ : Stake), x.2.2.2.2.2.2.2.2.1, x.2.2.2.2.2.2.2.2.2.1, x.2.2.2.2.2.2.2.2.2.2.1, x.2.2.2.2.2.2.2.2.2.2.2.1⟩ : za), x.2.2.2.2.2.2.2.2.2.2.2.2.1) : Wld × za × za × (List Asked))) (fun y => (y.1, y.2.1, y.2.2.1.Height, y.2.2.1.Time, y.2.2.1.Stake.Bank, y.2.2.1.Stake.Validators, y.2.2.1.Stake.Shares, y.2.2.1.Stake.Next, y.2.2.1.Set, y.2.2.1.Links, y.2.2.1.Meter, y.2.2.1.Queue, y.2.2.2, y.2.2.1.Stake.Waits)) (fun _ => rfl)), ⟨[2, 3, 6], [.nilcell 3 63 98 (.waits []), .nilown 6 101 (.asked [])]⟩, [.cells 109 159, .cells 61 97, .cells 61 97, .rows 101, .rows 98]⟩
def zaqn : St → Option LR := L1 77 10 1 zaxi (.exit 2) zanw (fun s => zbp s.1 s.2.1 s.2.2.1 s.2.2.2.1 s.2.2.2.2.1 s.2.2.2.2.2.1 s.2.2.2.2.2.2)
theorem zaxj : zq (zate).env 1 (sub zakw [0, 1, 0, 1, 1, 1, 1, 1, 1, 1]) zaqn :=
  ziy (A := zaxh) zatf Facts.mix trivial (k := zci (sub zakw [0, 1, 0, 1, 1, 1, 1, 1, 1, 1])) (by kernel_rfl) rfl (by rintro ⟨x0, x1, x2, x3, x4, x5, x6⟩; kernel_rfl)
def za8g : Ann := ⟨[([0, 1, 0, 1, 1, 1, 1, 1], zaqm), ([0, 1, 0, 1, 1, 1, 1, 1, 1, 1], zaqn)], [], [[1, 0, 1]], zatd, []⟩
def zed (a0 : Wld) : Tr (za × Wld) :=
  (.guard ((0 + Sl.len (.waits a0.p.Stake.Waits)) * 64 ≤ 140737488355328)
  (.bind (zb8 a0.p.Set) fun v1 =>
  (.bind (zem 0 a0 (default : za) ({ (a0.p : za) with Set := v1 })) fun v2 =>
  (.bind (zen v2.2.2.Queue ((v2.2.2.Queue.length : Nat) : Int) 0 v2.1 v2.2.1 v2.2.2 []) fun v3 =>
  (.leaf ({ (v3.2.2.1 : za) with Queue := v3.2.2.2 }, v3.1))))))
def zb9 (a0 : Wld) : Option (za × Wld) := (zed a0).run
def zaxk : LQ (Wld) := (LQ.skip (LQ.const (.ptr 0 0)) (LP.q zn0))
def zlf : LQ (za × Wld) := (LQ.seq (Par.q (Par.ofLP providerL)) (LP.q zn0))
def zg0 : SpecT := zv 1 zaxk 1 [.cells 109 159] (fun s => zed s) default zlf 1 [.cells 109 159]
theorem zlg : zi Tryz.prog 19 (zg0).spec :=
  zf (A := za8g) zatf Facts.mix Tryz.func19 (c := zakw) (by kernel_rfl) (Lc := 1) ⟨zaxg, zaxj, trivial⟩ zaxk 1 10 [.cells 109 159] (fun s => zed s) default zlf 1 [.cells 109 159] [.pubN 0, .pubB 2] (by decide) (by kernel_rfl) (by rfl) (by decide) (by decide) (by rfl)
    (by rintro a0; kernel_rfl)
noncomputable def zatg : Code := Tryz.f23.body.getD .skip
def zaxl : List (List Nat) := [[0, 1, 4], [0, 1, 4, 18], [4], [4, 5], [4, 5], [4, 5, 6], [4, 5, 6, 39, 40, 41], [4, 5, 6, 39, 40, 41, 42], [4, 5, 6, 8, 39, 40, 41], [4, 5, 6, 39, 40, 41], [4, 5, 6, 39, 40, 41], [4, 5], [4]]
noncomputable def zaxm : EnvT := ⟨Tryz.prog, zr [(46, zm4), (48, zqi), (49, zsk)]⟩
theorem zaxn : (zaxm).Ok := ze ⟨zqh, zva, zw3, trivial⟩
def zbq (x0 : (List Packet)) (x1 : Int) (x2 : Int) (x3 : Wld) (x4 : zb) (x5 : zb) (x6 : (List Packet)) : Tr (((List Packet) × Int × Int × Wld × zb × zb × (List Packet)) ⊕ (Wld × zb × zb × (List Packet))) :=
  (.ite (decide (x2 < x1))
    (.guard ((0 : Int) ≤ x2 ∧ x2 < ((Sl.len (.packets x0) : Nat) : Int))
    (.bind (zf0 (x0.getD x2.toNat default)) fun v1 =>
    (.guard ((Sl.len (.packets x6) + Sl.len (.packets [v1])) * 80 ≤ 140737488355328)
    (.leaf (.inl (x0, x1, IntKind.i64.wrap (x2 + 1), x3, x4, x5, x6 ++ [v1]))))))
    (.leaf (.inr (x3, x4, x5, x6))))
def zeo (x0 : (List Packet)) (x1 : Int) (x2 : Int) (x3 : Wld) (x4 : zb) (x5 : zb) (x6 : (List Packet)) : Option (Wld × zb × zb × (List Packet)) := zeh (fun s : (List Packet) × Int × Int × Wld × zb × zb × (List Packet) => (zbq s.1 s.2.1 s.2.2.1 s.2.2.2.1 s.2.2.2.2.1 s.2.2.2.2.2.1 s.2.2.2.2.2.2).run) (x0, x1, x2, x3, x4, x5, x6)
def zaxo : Ann := ⟨[], [], [], zaxl, []⟩
def zaxp : EndD ((List Packet) × Int × Int × Wld × zb × zb × (List Packet)) := ⟨(LQ.map (LQ.skip (LQ.const (.ptr 1 0)) (LQ.skip (LQ.const (.ptr 2 0)) (LQ.skip (LQ.const (.own 3)) (LQ.seq (Par.q zdv) (LQ.seq (Par.q intP) (LQ.seq (Par.q intP) (LQ.seq (LP.q zn0) (LQ.seq (LP.q z8) (LQ.seq (Par.q boolP) (LQ.seq (Par.q boolP) (LQ.seq (Par.q intP) (LQ.seq (Par.q intP) (LQ.seq (Par.q intP) (LQ.seq (Par.q zm) (LQ.seq (Par.q zdv) (LQ.skip (LQ.const (.own 4)) (LQ.seq (LP.q (a6L (LP.one boolP))) (LQ.seq (LP.q lineL) (LQ.seq (LP.q z9e) (LQ.seq (Par.q zdv) (Par.q zyf))))))))))))))))))))) (fun x : (List Packet) × Int × Int × Wld × zb × Bool × Bool × Int × Int × Int × (List Power) × (List Packet) × (A6 Bool) × zeg × z7w × (List Packet) × (List Ripe) => ((x.1, x.2.1, x.2.2.1, x.2.2.2.1, x.2.2.2.2.1, (⟨x.2.2.2.2.2.1, x.2.2.2.2.2.2.1, x.2.2.2.2.2.2.2.1, x.2.2.2.2.2.2.2.2.1, x.2.2.2.2.2.2.2.2.2.1, x.2.2.2.2.2.2.2.2.2.2.1, x.2.2.2.2.2.2.2.2.2.2.2.1, x.2.2.2.2.2.2.2.2.2.2.2.2.2.2.2.2, x.2.2.2.2.2.2.2.2.2.2.2.2.1, x.2.2.2.2.2.2.2.2.2.2.2.2.2.1, x.2.2.2.2.2.2.2.2.2.2.2.2.2.2.1⟩ : zb), x.2.2.2.2.2.2.2.2.2.2.2.2.2.2.2.1) : (List Packet) × Int × Int × Wld × zb × zb × (List Packet))) (fun y => (y.1, y.2.1, y.2.2.1, y.2.2.2.1, y.2.2.2.2.1, y.2.2.2.2.2.1.On, y.2.2.2.2.2.1.Gone, y.2.2.2.2.2.1.Height, y.2.2.2.2.2.1.Time, y.2.2.2.2.2.1.Id, y.2.2.2.2.2.1.Set, y.2.2.2.2.2.1.Pending, y.2.2.2.2.2.1.Flags, y.2.2.2.2.2.1.Out, y.2.2.2.2.2.1.Seen, y.2.2.2.2.2.2, y.2.2.2.2.2.1.Ripes)) (fun _ => rfl)), ⟨[4, 5, 6, 39, 40, 41], [.nilcell 5 7 103 (.ripes []), .nilown 6 79 (.packets []), .pub 39, .nilsl 39 (.packets [])]⟩, [.cells 109 159, .cells 71 22, .cells 71 22, .rows 79, .rows 103]⟩
def zanx : EndD (Wld × zb × zb × (List Packet)) := ⟨(LQ.map (LQ.skip (LQ.const (.ptr 1 0)) (LQ.skip (LQ.const (.ptr 2 0)) (LQ.skip (LQ.const (.own 3)) (LQ.seq (LP.q zn0) (LQ.seq (LP.q z8) (LQ.seq (Par.q boolP) (LQ.seq (Par.q boolP) (LQ.seq (Par.q intP) (LQ.seq (Par.q intP) (LQ.seq (Par.q intP) (LQ.seq (Par.q zm) (LQ.seq (Par.q zdv) (LQ.skip (LQ.const (.own 4)) (LQ.seq (LP.q (a6L (LP.one boolP))) (LQ.seq (LP.q lineL) (LQ.seq (LP.q z9e) (LQ.seq (Par.q zdv) (Par.q zyf)))))))))))))))))) (fun x : Wld × zb × Bool × Bool × Int × Int × Int × (List Power) × (List Packet) × (A6 Bool) × zeg × z7w × (List Packet) × (List Ripe) => ((x.1, x.2.1, (⟨x.2.2.1, x.2.2.2.1, x.2.2.2.2.1, x.2.2.2.2.2.1, x.2.2.2.2.2.2.1, x.2.2.2.2.2.2.2.1, x.2.2.2.2.2.2.2.2.1, x.2.2.2.2.2.2.2.2.2.2.2.2.2, x.2.2.2.2.2.2.2.2.2.1, x.2.2.2.2.2.2.2.2.2.2.1, x.2.2.2.2.2.2.2.2.2.2.2.1⟩ : zb), x.2.2.2.2.2.2.2.2.2.2.2.2.1) : Wld × zb × zb × (List Packet))) (fun y => (y.1, y.2.1, y.2.2.1.On, y.2.2.1.Gone, y.2.2.1.Height, y.2.2.1.Time, y.2.2.1.Id, y.2.2.1.Set, y.2.2.1.Pending, y.2.2.1.Flags, y.2.2.1.Out, y.2.2.1.Seen, y.2.2.2, y.2.2.1.Ripes)) (fun _ => rfl)), ⟨[4, 5, 6], [.nilcell 5 7 103 (.ripes []), .nilown 6 79 (.packets [])]⟩, [.cells 109 159, .cells 71 22, .cells 71 22, .rows 79, .rows 103]⟩
def zaqo : St → Option LR := L1 54 10 1 zaxp (.exit 0) zanx (fun s => zbq s.1 s.2.1 s.2.2.1 s.2.2.2.1 s.2.2.2.2.1 s.2.2.2.2.2.1 s.2.2.2.2.2.2)
theorem zaxq : zq (zaxm).env 1 (sub zatg [0, 1, 0, 1, 1, 1, 1, 1]) zaqo :=
  ziy (A := zaxo) zaxn Facts.mix trivial (k := zci (sub zatg [0, 1, 0, 1, 1, 1, 1, 1])) (by kernel_rfl) rfl (by rintro ⟨x0, x1, x2, x3, x4, x5, x6⟩; kernel_rfl)
def za8h : Ann := ⟨[([0, 1, 0, 1, 1, 1, 1, 1], zaqo)], [], [], zaxl, []⟩
def zee (a0 : Int) (a1 : Wld) : Tr (zb × Wld) :=
  (.ite ((false || (decide (a0 < 0))) || (decide (a0 ≥ 2)))
    (.leaf ((default : zb), a1))
    (.guard ((0 : Int) ≤ a0 ∧ (a0 : Int) < 2)
    (.guard ((zb8 (a1.consumers.Set.get a0)).isSome = true)
    (.guard ((zbv (zc a1.consumers a0).Out).isSome = true)
    (.guard ((0 + Sl.len (.ripes (a1.consumers.Ripes.get a0))) * 16 ≤ 140737488355328)
    (.bind (zeo (a1.consumers.Pending.get a0) (((a1.consumers.Pending.get a0).length : Nat) : Int) 0 a1 (default : zb) ({ ((zc a1.consumers a0) : zb) with Set := ((zb8 (a1.consumers.Set.get a0)).getD default), Out := ((zbv (zc a1.consumers a0).Out).getD default) }) []) fun v2 =>
    (.leaf ({ (v2.2.2.1 : zb) with Pending := v2.2.2.2 }, v2.1))))))))
def zbi (a0 : Int) (a1 : Wld) : Option (zb × Wld) := (zee a0 a1).run
def zaxr : LQ (Int × Wld) := (LQ.skip (LQ.const (.ptr 0 0)) (LQ.seq (Par.q intP) (LP.q zn0)))
def zlh : LQ (zb × Wld) := (LQ.seq (Par.q (Par.ofLP z8)) (LP.q zn0))
def zg1 : SpecT := zv 1 zaxr 2 [.cells 109 159] (fun s => zee s.1 s.2) default zlh 1 [.cells 109 159]
theorem zli : zi Tryz.prog 23 (zg1).spec :=
  zf (A := za8h) zaxn Facts.mix Tryz.func23 (c := zatg) (by kernel_rfl) (Lc := 1) ⟨zaxq, trivial⟩ zaxr 2 10 [.cells 109 159] (fun s => zee s.1 s.2) default zlh 1 [.cells 109 159] [.pubN 0, .pubB 4] (by decide) (by kernel_rfl) (by rfl) (by decide) (by decide) (by rfl)
    (by rintro ⟨a0, a1⟩; kernel_rfl)
noncomputable def za8i : Code := Tryz.f105.body.getD .skip
def za8j : List (List Nat) := [[1, 2], [1, 2, 5], [1, 2, 5, 11], [1, 5], [5, 19], [4], [5], [4]]
noncomputable def za8k : EnvT := ⟨Tryz.prog, zr [(28, zms)]⟩
theorem za8l : (za8k).Ok := ze ⟨zp0, trivial⟩
def za8m : Ann := ⟨[], [], [], za8j, []⟩
def zrr (a0 : zeg) (a1 : Bool) : Tr (ByteArray) :=
  (.ite (decide (a0.Got < ((a0.Said.length : Nat) : Int)))
    (.guard ((0 : Int) ≤ a0.Got ∧ a0.Got < ((Sl.len (.strs a0.Said) : Nat) : Int))
    (.ite (!a1)
      (.leaf (a0.Said.getD a0.Got.toNat .empty))
      (.bind (zbn (⟨3, 1, 0, IntKind.i64.wrap (1 + (((a0.Said.getD a0.Got.toNat .empty).size : Nat) : Int)), [], []⟩ : Packet)) fun v1 =>
      (.leaf v1.1))))
    (.ite (!a1)
      (.leaf (⟨#[]⟩ : ByteArray))
      (.bind (zbn (⟨3, 1, 0, IntKind.i64.wrap (1 + (((⟨#[]⟩ : ByteArray).size : Nat) : Int)), [], []⟩ : Packet)) fun v2 =>
      (.leaf v2.1))))
def zpe (a0 : zeg) (a1 : Bool) : Option (ByteArray) := (zrr a0 a1).run
def zaxs : LQ (zeg × Bool) := (LQ.seq (Par.q (Par.ofLP lineL)) (Par.q boolP))
def z1o : LQ (ByteArray) := (Par.q strP)
def z3h : SpecT := zv 0 zaxs 2 [] (fun s => zrr s.1 s.2) default z1o 1 []
theorem zaaf : zi Tryz.prog 105 (z3h).spec :=
  zf (A := za8m) za8l Facts.mix Tryz.func105 (c := za8i) (by kernel_rfl) (Lc := 0) trivial zaxs 2 3 [] (fun s => zrr s.1 s.2) default z1o 1 [] [] (by decide) (by kernel_rfl) (by rfl) (by decide) (by decide) (by rfl)
    (by rintro ⟨a0, a1⟩; kernel_rfl)
noncomputable def zath : Code := Tryz.f64.body.getD .skip
def zaxt : List (List Nat) := [[0, 2], [0, 2, 3, 4, 5], [0, 2, 3, 4, 5, 21], [2], [0, 2, 3, 4], [0, 2, 3, 4, 28], [0, 2, 3, 4, 28, 29], [0, 2, 3, 4, 6, 28], [0, 2, 3, 4, 28], [0, 2, 3, 4, 28], [2]]
noncomputable def zaxu : EnvT := ⟨Tryz.prog, zr [(81, zze)]⟩
theorem zaxv : (zaxu).Ok := ze ⟨z51, trivial⟩
def zbd (x0 : (List Int)) (x1 : Int) (x2 : Wld) (x3 : Reply) (x4 : za) : Tr (((List Int) × Int × Wld × Reply × za) ⊕ ((List Int) × Wld × Reply)) :=
  (.ite (decide (x1 < 2))
    (.guard ((0 : Int) ≤ x1 ∧ (x1 : Int) < 2)
    (.guard ((0 : Int) ≤ x1 ∧ (x1 : Int) < 2)
    (.guard ((0 : Int) ≤ x1 ∧ (x1 : Int) < 2)
    (.guard ((0 : Int) ≤ 0 ∧ (0 : Int) < 2)
    (.leaf (.inl (x0, IntKind.i64.wrap (x1 + 1), { (x2 : Wld) with heads := { (x2.heads : zx4) with PHeight := (x2.heads.PHeight.set x1 x4.Height), PTime := (x2.heads.PTime.set x1 x4.Time), PSaid := (x2.heads.PSaid.set x1 (((x4.Links.Said.get x1).length : Nat) : Int)), PGot := (x2.heads.PGot.set x1 (x2.consumers.Got.get x1)) } }, x3, x4)))))))
    (.leaf (.inr (x0, x2, x3))))
def zfc (x0 : (List Int)) (x1 : Int) (x2 : Wld) (x3 : Reply) (x4 : za) : Option ((List Int) × Wld × Reply) := zeh (fun s : (List Int) × Int × Wld × Reply × za => (zbd s.1 s.2.1 s.2.2.1 s.2.2.2.1 s.2.2.2.2).run) (x0, x1, x2, x3, x4)
def zaxw : Ann := ⟨[], [], [], zaxt, []⟩
def zaxx : EndD ((List Int) × Int × Wld × Reply × za) := ⟨(LQ.skip (LQ.const (.ptr 0 0)) (LQ.skip (LQ.const (.ptr 1 0)) (LQ.skip (LQ.const (.ptr 2 0)) (LQ.seq (Par.q zhg) (LQ.seq (Par.q intP) (LQ.seq (LP.q zn0) (LQ.seq (LP.q zus) (LP.q providerL)))))))), ⟨[0, 2, 3, 4, 28], [.pub 4, .nilsl 4 (.ints [])]⟩, [.cells 109 159, .cells 29 2, .cells 61 97]⟩
def zany : EndD ((List Int) × Wld × Reply) := ⟨(LQ.skip (LQ.const (.ptr 1 0)) (LQ.seq (Par.q zhg) (LQ.seq (LP.q zn0) (LP.q zus)))), ⟨[2, 4], [.pub 4, .nilsl 4 (.ints [])]⟩, [.cells 109 159, .cells 29 2]⟩
def zaqp : St → Option LR := L1 61 5 1 zaxx (.exit 0) zany (fun s => zbd s.1 s.2.1 s.2.2.1 s.2.2.2.1 s.2.2.2.2)
theorem zaxy : zq (zaxu).env 1 (sub zath [0, 1, 0, 1, 1, 1, 1]) zaqp :=
  ziy (A := zaxw) zaxv Facts.mix trivial (k := zci (sub zath [0, 1, 0, 1, 1, 1, 1])) (by kernel_rfl) rfl (by rintro ⟨x0, x1, x2, x3, x4⟩; kernel_rfl)
def za8n : Ann := ⟨[([0, 1, 0, 1, 1, 1, 1], zaqp)], [], [], zaxt, []⟩
def zez (a0 : Wld) : Tr (Reply × Wld) :=
  (.guard ((zdd a0.p a0.clock).isSome = true)
  (.ite (((zdd a0.p a0.clock).getD default).2.2 != 0)
    (.leaf ((⟨((zdd a0.p a0.clock).getD default).2.2, 0⟩ : Reply), a0))
    (.bind (zfc ((zdd a0.p a0.clock).getD default).2.1 0 ({ (a0 : Wld) with p := ((zdd a0.p a0.clock).getD default).1 }) (⟨0, 0⟩ : Reply) ((zdd a0.p a0.clock).getD default).1) fun v1 =>
    (.leaf ((⟨0, ((v1.1.length : Nat) : Int)⟩ : Reply), v1.2.1)))))
def zg2 (a0 : Wld) : Option (Reply × Wld) := (zez a0).run
def zaxz : LQ (Wld) := (LQ.skip (LQ.const (.ptr 0 0)) (LP.q zn0))
def zlx : LQ (Reply × Wld) := (LQ.seq (Par.q (Par.ofLP zus)) (LP.q zn0))
def znp : SpecT := zv 1 zaxz 1 [.cells 109 159] (fun s => zez s) default zlx 1 [.cells 109 159]
theorem zvl : zi Tryz.prog 64 (znp).spec :=
  zf (A := za8n) zaxv Facts.mix Tryz.func64 (c := zath) (by kernel_rfl) (Lc := 1) ⟨zaxy, trivial⟩ zaxz 1 5 [.cells 109 159] (fun s => zez s) default zlx 1 [.cells 109 159] [.pubN 0] (by decide) (by kernel_rfl) (by rfl) (by decide) (by decide) (by rfl)
    (by rintro a0; kernel_rfl)
noncomputable def za8o : Code := Tryz.f85.body.getD .skip
def za8p : List (List Nat) := [[0, 3, 4], [0, 3, 4, 5, 6], [0, 3, 4, 5, 6, 7, 8], [0, 3, 4, 5, 6, 7, 8, 37], [0, 3, 4, 5, 6, 7, 8], [0, 3, 4, 5, 6, 7, 8, 9], [0, 3, 4, 5, 6, 7, 9, 10], [0, 3, 4, 5, 6, 7, 9, 10, 66], [4], [0, 3, 4, 5, 6, 7, 9, 70], [0, 4, 5, 7, 11, 12], [0, 4, 5, 7, 11, 12, 83], [4], [4, 7], [4], [4, 5, 6, 7, 10, 13], [4, 5, 6, 7, 10, 13, 106], [4], [4, 7], [4]]
noncomputable def za8q : EnvT := ⟨Tryz.prog, zr [(105, z3h), (106, zyr), (107, zwu), (108, zwo)]⟩
theorem za8r : (za8q).Ok := ze ⟨zaaf, z5p, z3u, z3s, trivial⟩
def za8s : Ann := ⟨[], [], [], za8p, []⟩
def ze0 (a0 : Deed) (a1 : Wld) : Tr (Reply × Wld) :=
  (.guard ((0 : Int) ≤ a0.C ∧ (a0.C : Int) < 2)
  (.guard ((0 : Int) ≤ a0.C ∧ (a0.C : Int) < 2)
  (.ite (a0.Back)
    (.bind (zpe (zc a1.consumers a0.C).Out a0.Forged) fun v1 =>
    (.guard ((zj (zc a1.consumers a0.C).Out (IntKind.i64.wrap ((a1.consumers.Got.get a0.C) + 1)) v1 (a1.p.Links.SSaid.get a0.C) a1.clock).isSome = true)
    (.ite (((zj (zc a1.consumers a0.C).Out (IntKind.i64.wrap ((a1.consumers.Got.get a0.C) + 1)) v1 (a1.p.Links.SSaid.get a0.C) a1.clock).getD default).2 != 0)
      (.leaf ((⟨((zj (zc a1.consumers a0.C).Out (IntKind.i64.wrap ((a1.consumers.Got.get a0.C) + 1)) v1 (a1.p.Links.SSaid.get a0.C) a1.clock).getD default).2, 0⟩ : Reply), a1))
      (.ite (a0.Back)
        (.guard ((zbf a1.p a0.C v1).isSome = true)
        (.ite (((zbf a1.p a0.C v1).getD default).2 != 0)
          (.leaf ((⟨((zbf a1.p a0.C v1).getD default).2, 0⟩ : Reply), a1))
          (.leaf ((⟨0, ((zj (zc a1.consumers a0.C).Out (IntKind.i64.wrap ((a1.consumers.Got.get a0.C) + 1)) v1 (a1.p.Links.SSaid.get a0.C) a1.clock).getD default).1.Got⟩ : Reply), { (a1 : Wld) with p := ((zbf a1.p a0.C v1).getD default).1, consumers := { (a1.consumers : zcw) with Said := (a1.consumers.Said.set a0.C ((zj (zc a1.consumers a0.C).Out (IntKind.i64.wrap ((a1.consumers.Got.get a0.C) + 1)) v1 (a1.p.Links.SSaid.get a0.C) a1.clock).getD default).1.Said), Due := (a1.consumers.Due.set a0.C ((zj (zc a1.consumers a0.C).Out (IntKind.i64.wrap ((a1.consumers.Got.get a0.C) + 1)) v1 (a1.p.Links.SSaid.get a0.C) a1.clock).getD default).1.Due), Got := (a1.consumers.Got.set a0.C ((zj (zc a1.consumers a0.C).Out (IntKind.i64.wrap ((a1.consumers.Got.get a0.C) + 1)) v1 (a1.p.Links.SSaid.get a0.C) a1.clock).getD default).1.Got), Closed := (a1.consumers.Closed.set a0.C ((zj (zc a1.consumers a0.C).Out (IntKind.i64.wrap ((a1.consumers.Got.get a0.C) + 1)) v1 (a1.p.Links.SSaid.get a0.C) a1.clock).getD default).1.Closed) } }))))
        (.bind (zjn (zc a1.consumers a0.C) v1) fun v2 =>
        (.ite (v2.2 != 0)
          (.leaf ((⟨v2.2, 0⟩ : Reply), a1))
          (.leaf ((⟨0, ((zj (zc a1.consumers a0.C).Out (IntKind.i64.wrap ((a1.consumers.Got.get a0.C) + 1)) v1 (a1.p.Links.SSaid.get a0.C) a1.clock).getD default).1.Got⟩ : Reply), { (a1 : Wld) with p := { (a1.p : za) with Links := { (a1.p.Links : Links) with Said := (a1.p.Links.Said.set a0.C ((zj (zc a1.consumers a0.C).Out (IntKind.i64.wrap ((a1.consumers.Got.get a0.C) + 1)) v1 (a1.p.Links.SSaid.get a0.C) a1.clock).getD default).1.Said), Due := (a1.p.Links.Due.set a0.C ((zj (zc a1.consumers a0.C).Out (IntKind.i64.wrap ((a1.consumers.Got.get a0.C) + 1)) v1 (a1.p.Links.SSaid.get a0.C) a1.clock).getD default).1.Due), Got := (a1.p.Links.Got.set a0.C ((zj (zc a1.consumers a0.C).Out (IntKind.i64.wrap ((a1.consumers.Got.get a0.C) + 1)) v1 (a1.p.Links.SSaid.get a0.C) a1.clock).getD default).1.Got), Closed := (a1.p.Links.Closed.set a0.C ((zj (zc a1.consumers a0.C).Out (IntKind.i64.wrap ((a1.consumers.Got.get a0.C) + 1)) v1 (a1.p.Links.SSaid.get a0.C) a1.clock).getD default).1.Closed) } }, consumers := (znz a1.consumers a0.C v2.1) }))))))))
    (.bind (zpe (zh a1.p.Links a0.C).Out a0.Forged) fun v3 =>
    (.guard ((zj (zh a1.p.Links a0.C).Out (IntKind.i64.wrap ((a1.p.Links.Got.get a0.C) + 1)) v3 (a1.consumers.SSaid.get a0.C) a1.clock).isSome = true)
    (.ite (((zj (zh a1.p.Links a0.C).Out (IntKind.i64.wrap ((a1.p.Links.Got.get a0.C) + 1)) v3 (a1.consumers.SSaid.get a0.C) a1.clock).getD default).2 != 0)
      (.leaf ((⟨((zj (zh a1.p.Links a0.C).Out (IntKind.i64.wrap ((a1.p.Links.Got.get a0.C) + 1)) v3 (a1.consumers.SSaid.get a0.C) a1.clock).getD default).2, 0⟩ : Reply), a1))
      (.ite (a0.Back)
        (.guard ((zbf a1.p a0.C v3).isSome = true)
        (.ite (((zbf a1.p a0.C v3).getD default).2 != 0)
          (.leaf ((⟨((zbf a1.p a0.C v3).getD default).2, 0⟩ : Reply), a1))
          (.leaf ((⟨0, ((zj (zh a1.p.Links a0.C).Out (IntKind.i64.wrap ((a1.p.Links.Got.get a0.C) + 1)) v3 (a1.consumers.SSaid.get a0.C) a1.clock).getD default).1.Got⟩ : Reply), { (a1 : Wld) with p := ((zbf a1.p a0.C v3).getD default).1, consumers := { (a1.consumers : zcw) with Said := (a1.consumers.Said.set a0.C ((zj (zh a1.p.Links a0.C).Out (IntKind.i64.wrap ((a1.p.Links.Got.get a0.C) + 1)) v3 (a1.consumers.SSaid.get a0.C) a1.clock).getD default).1.Said), Due := (a1.consumers.Due.set a0.C ((zj (zh a1.p.Links a0.C).Out (IntKind.i64.wrap ((a1.p.Links.Got.get a0.C) + 1)) v3 (a1.consumers.SSaid.get a0.C) a1.clock).getD default).1.Due), Got := (a1.consumers.Got.set a0.C ((zj (zh a1.p.Links a0.C).Out (IntKind.i64.wrap ((a1.p.Links.Got.get a0.C) + 1)) v3 (a1.consumers.SSaid.get a0.C) a1.clock).getD default).1.Got), Closed := (a1.consumers.Closed.set a0.C ((zj (zh a1.p.Links a0.C).Out (IntKind.i64.wrap ((a1.p.Links.Got.get a0.C) + 1)) v3 (a1.consumers.SSaid.get a0.C) a1.clock).getD default).1.Closed) } }))))
        (.bind (zjn (zc a1.consumers a0.C) v3) fun v4 =>
        (.ite (v4.2 != 0)
          (.leaf ((⟨v4.2, 0⟩ : Reply), a1))
          (.leaf ((⟨0, ((zj (zh a1.p.Links a0.C).Out (IntKind.i64.wrap ((a1.p.Links.Got.get a0.C) + 1)) v3 (a1.consumers.SSaid.get a0.C) a1.clock).getD default).1.Got⟩ : Reply), { (a1 : Wld) with p := { (a1.p : za) with Links := { (a1.p.Links : Links) with Said := (a1.p.Links.Said.set a0.C ((zj (zh a1.p.Links a0.C).Out (IntKind.i64.wrap ((a1.p.Links.Got.get a0.C) + 1)) v3 (a1.consumers.SSaid.get a0.C) a1.clock).getD default).1.Said), Due := (a1.p.Links.Due.set a0.C ((zj (zh a1.p.Links a0.C).Out (IntKind.i64.wrap ((a1.p.Links.Got.get a0.C) + 1)) v3 (a1.consumers.SSaid.get a0.C) a1.clock).getD default).1.Due), Got := (a1.p.Links.Got.set a0.C ((zj (zh a1.p.Links a0.C).Out (IntKind.i64.wrap ((a1.p.Links.Got.get a0.C) + 1)) v3 (a1.consumers.SSaid.get a0.C) a1.clock).getD default).1.Got), Closed := (a1.p.Links.Closed.set a0.C ((zj (zh a1.p.Links a0.C).Out (IntKind.i64.wrap ((a1.p.Links.Got.get a0.C) + 1)) v3 (a1.consumers.SSaid.get a0.C) a1.clock).getD default).1.Closed) } }, consumers := (znz a1.consumers a0.C v4.1) })))))))))))
def zg3 (a0 : Deed) (a1 : Wld) : Option (Reply × Wld) := (ze0 a0 a1).run
def zax0 : LQ (Deed × Wld) := (LQ.skip (LQ.const (.ptr 0 0)) (LQ.seq (Par.q (Par.ofLP deedL)) (LP.q zn0)))
def zly : LQ (Reply × Wld) := (LQ.seq (Par.q (Par.ofLP zus)) (LP.q zn0))
def znq : SpecT := zv 1 zax0 2 [.cells 109 159] (fun s => ze0 s.1 s.2) default zly 1 [.cells 109 159]
theorem zvm : zi Tryz.prog 85 (znq).spec :=
  zf (A := za8s) za8r Facts.mix Tryz.func85 (c := za8o) (by kernel_rfl) (Lc := 1) trivial zax0 2 7 [.cells 109 159] (fun s => ze0 s.1 s.2) default zly 1 [.cells 109 159] [.pubN 0] (by decide) (by kernel_rfl) (by rfl) (by decide) (by decide) (by rfl)
    (by rintro ⟨a0, a1⟩; kernel_rfl)
noncomputable def za8t : Code := Tryz.f86.body.getD .skip
def za8u : List (List Nat) := [[0, 3, 4], [0, 3, 4, 5, 6], [0, 3, 4, 5, 7, 8], [0, 3, 4, 5, 7, 8, 33], [0, 3, 4, 5, 7, 8], [0, 3, 4, 5, 10], [0, 3, 4, 5, 10, 54], [4], [4, 5], [4], [4]]
noncomputable def za8v : EnvT := ⟨Tryz.prog, zr [(109, z1a), (110, zs8), (111, zs5)]⟩
theorem za8w : (za8v).Ok := ze ⟨z7q, z1n, z1l, trivial⟩
def za8x : Ann := ⟨[], [], [], za8u, []⟩
def zfj (a0 : Deed) (a1 : Wld) : Tr (Reply × Wld) :=
  (.guard ((0 : Int) ≤ a0.C ∧ (a0.C : Int) < 2)
  (.guard ((0 : Int) ≤ a0.C ∧ (a0.C : Int) < 2)
  (.ite (a0.Back)
    (.bind (zmo (zc a1.consumers a0.C).Out a0.N (a1.consumers.STime.get a0.C) (a1.consumers.SGot.get a0.C)) fun v1 =>
    (.ite (v1.2 != 0)
      (.leaf ((⟨v1.2, 0⟩ : Reply), a1))
      (.guard ((zdn a1.p a0.C).isSome = true)
      (.bind (zg9 (zc a1.consumers a0.C)) fun v2 =>
      (.leaf ((⟨0, 0⟩ : Reply), { (a1 : Wld) with p := ((zdn a1.p a0.C).getD default), consumers := (znz a1.consumers a0.C v2) }))))))
    (.bind (zmo (zh a1.p.Links a0.C).Out a0.N (a1.p.Links.STime.get a0.C) (a1.p.Links.SGot.get a0.C)) fun v3 =>
    (.ite (v3.2 != 0)
      (.leaf ((⟨v3.2, 0⟩ : Reply), a1))
      (.guard ((zdn a1.p a0.C).isSome = true)
      (.bind (zg9 (zc a1.consumers a0.C)) fun v4 =>
      (.leaf ((⟨0, 0⟩ : Reply), { (a1 : Wld) with p := ((zdn a1.p a0.C).getD default), consumers := (znz a1.consumers a0.C v4) })))))))))
def zho (a0 : Deed) (a1 : Wld) : Option (Reply × Wld) := (zfj a0 a1).run
def zax1 : LQ (Deed × Wld) := (LQ.skip (LQ.const (.ptr 0 0)) (LQ.seq (Par.q (Par.ofLP deedL)) (LP.q zn0)))
def znr : LQ (Reply × Wld) := (LQ.seq (Par.q (Par.ofLP zus)) (LP.q zn0))
def zoj : SpecT := zv 1 zax1 2 [.cells 109 159] (fun s => zfj s.1 s.2) default znr 1 [.cells 109 159]
theorem zw4 : zi Tryz.prog 86 (zoj).spec :=
  zf (A := za8x) za8w Facts.mix Tryz.func86 (c := za8t) (by kernel_rfl) (Lc := 1) trivial zax1 2 8 [.cells 109 159] (fun s => zfj s.1 s.2) default znr 1 [.cells 109 159] [.pubN 0] (by decide) (by kernel_rfl) (by rfl) (by decide) (by decide) (by rfl)
    (by rintro ⟨a0, a1⟩; kernel_rfl)
noncomputable def za8y : Code := Tryz.f65.body.getD .skip
def za8z : List (List Nat) := [[0, 3, 4], [0, 3, 4, 17], [4], [0, 3, 4, 26], [4], [0, 3, 4, 5], [0, 3, 4, 5, 43], [4], [0, 3, 4, 5, 6], [0, 3, 4, 5, 6, 7], [0, 3, 4, 5, 6, 7, 49], [0, 3, 4, 5, 6, 7, 49, 50], [0, 3, 4, 5, 8, 9], [0, 3, 4, 5, 8, 9, 63], [4], [0, 3, 4, 8], [4, 8], [4], [0, 3, 4, 5, 6, 7, 49, 91], [0, 3, 4, 5, 6, 7], [0, 3, 4, 5, 6, 7, 103], [4, 5, 6, 7], [0, 3, 4, 5, 6, 7, 49, 130], [0, 3, 4, 5, 6, 7, 133], [4, 5, 6, 7], [4, 5, 6, 7], [0, 3, 4, 5, 6, 7, 49, 159], [4], [0, 3, 4, 5, 6, 7, 49, 164], [4], [0, 3, 4, 5, 6, 7, 49, 169], [4, 5, 6, 7], [0, 3, 4, 5, 6, 7, 182], [4, 5, 6, 7], [4, 5, 6, 7, 198], [4], [4], [4]]
noncomputable def za9b : EnvT := ⟨Tryz.prog, zr [(82, zu3), (83, zuz), (84, zza), (85, znq), (86, zoj), (87, zwr), (88, zs4)]⟩
theorem za9c : (za9b).Ok := ze ⟨z2c, z2b, z5x, zvm, zw4, z3t, z1k, trivial⟩
def za9d : Ann := ⟨[], [], [], za8z, []⟩
def ze1 (a0 : Deed) (a1 : Wld) : Tr (Reply × Wld) :=
  (.ite ((decide (a0.Kind < 4)) || (decide (a0.Kind > 12)))
    (.leaf ((⟨3, 0⟩ : Reply), a1))
    (.ite ((decide (a0.C < 0)) || (decide (a0.C ≥ 2)))
      (.leaf ((⟨4, 0⟩ : Reply), a1))
      (.guard ((0 : Int) ≤ a0.C ∧ (a0.C : Int) < 2)
      (.ite ((a0.Kind != 4) && (!(a1.consumers.On.get a0.C)))
        (.leaf ((⟨4, 0⟩ : Reply), a1))
        (.ite (a0.Kind == 4)
          (.guard ((zal a1.p a0.C).isSome = true)
          (.ite (((zal a1.p a0.C).getD default).2 != 0)
            (.leaf ((⟨((zal a1.p a0.C).getD default).2, 0⟩ : Reply), a1))
            (.guard ((zie ((zal a1.p a0.C).getD default).1.Set ((zal a1.p a0.C).getD default).1.Height a1.clock).isSome = true)
            (.guard ((0 : Int) ≤ a0.C ∧ (a0.C : Int) < 2)
            (.leaf ((⟨0, ((zal a1.p a0.C).getD default).1.Height⟩ : Reply), (⟨a1.clock, ((zal a1.p a0.C).getD default).1, (znz a1.consumers a0.C ((zie ((zal a1.p a0.C).getD default).1.Set ((zal a1.p a0.C).getD default).1.Height a1.clock).getD default)), (⟨(a1.heads.PHeight.set a0.C 0), (a1.heads.PTime.set a0.C 0), (a1.heads.PSaid.set a0.C 0), (a1.heads.PGot.set a0.C 0), (a1.heads.CHeight.set a0.C 0), (a1.heads.CTime.set a0.C 0), (a1.heads.CSaid.set a0.C 0), (a1.heads.CGot.set a0.C 0)⟩ : zx4), a1.deeds⟩ : Wld)))))))
          (.ite (a0.Kind == 7)
            (.guard ((zy (zc a1.consumers a0.C) a1.clock).isSome = true)
            (.ite (((zy (zc a1.consumers a0.C) a1.clock).getD default).2 == 0)
              (.guard ((0 : Int) ≤ a0.C ∧ (a0.C : Int) < 2)
              (.guard ((0 : Int) ≤ a0.C ∧ (a0.C : Int) < 2)
              (.guard ((0 : Int) ≤ 1 ∧ (1 : Int) < 2)
              (.ite (((zy (zc a1.consumers a0.C) a1.clock).getD default).2 != 0)
                (.leaf ((⟨((zy (zc a1.consumers a0.C) a1.clock).getD default).2, 0⟩ : Reply), { (a1 : Wld) with heads := { (a1.heads : zx4) with CHeight := (a1.heads.CHeight.set a0.C ((zy (zc a1.consumers a0.C) a1.clock).getD default).1.Height), CTime := (a1.heads.CTime.set a0.C ((zy (zc a1.consumers a0.C) a1.clock).getD default).1.Time), CSaid := (a1.heads.CSaid.set a0.C ((((zy (zc a1.consumers a0.C) a1.clock).getD default).1.Out.Said.length : Nat) : Int)), CGot := (a1.heads.CGot.set a0.C (a1.p.Links.Got.get a0.C)) } }))
                (.leaf ((⟨0, 0⟩ : Reply), { (a1 : Wld) with consumers := (znz a1.consumers a0.C ((zy (zc a1.consumers a0.C) a1.clock).getD default).1), heads := { (a1.heads : zx4) with CHeight := (a1.heads.CHeight.set a0.C ((zy (zc a1.consumers a0.C) a1.clock).getD default).1.Height), CTime := (a1.heads.CTime.set a0.C ((zy (zc a1.consumers a0.C) a1.clock).getD default).1.Time), CSaid := (a1.heads.CSaid.set a0.C ((((zy (zc a1.consumers a0.C) a1.clock).getD default).1.Out.Said.length : Nat) : Int)), CGot := (a1.heads.CGot.set a0.C (a1.p.Links.Got.get a0.C)) } }))))))
              (.ite (((zy (zc a1.consumers a0.C) a1.clock).getD default).2 != 0)
                (.leaf ((⟨((zy (zc a1.consumers a0.C) a1.clock).getD default).2, 0⟩ : Reply), a1))
                (.leaf ((⟨0, 0⟩ : Reply), { (a1 : Wld) with consumers := (znz a1.consumers a0.C ((zy (zc a1.consumers a0.C) a1.clock).getD default).1) })))))
            (.ite (a0.Kind == 8)
              (.ite (a0.Back)
                (.guard ((0 : Int) ≤ a0.C ∧ (a0.C : Int) < 2)
                (.guard ((0 : Int) ≤ 1 ∧ (1 : Int) < 2)
                (.guard ((0 : Int) ≤ a0.C ∧ (a0.C : Int) < 2)
                (.ite (false)
                  (.leaf ((⟨0, 0⟩ : Reply), { (a1 : Wld) with p := { (a1.p : za) with Links := { (a1.p.Links : Links) with SHeight := (a1.p.Links.SHeight.set a0.C (a1.heads.CHeight.get a0.C)), STime := (a1.p.Links.STime.set a0.C (a1.heads.CTime.get a0.C)), SSaid := (a1.p.Links.SSaid.set a0.C (a1.heads.CSaid.get a0.C)), SGot := (a1.p.Links.SGot.set a0.C (a1.heads.CGot.get a0.C)) } } }))
                  (.leaf ((⟨0, 0⟩ : Reply), { (a1 : Wld) with p := { (a1.p : za) with Links := { (a1.p.Links : Links) with SHeight := (a1.p.Links.SHeight.set a0.C (a1.heads.CHeight.get a0.C)), STime := (a1.p.Links.STime.set a0.C (a1.heads.CTime.get a0.C)), SSaid := (a1.p.Links.SSaid.set a0.C (a1.heads.CSaid.get a0.C)), SGot := (a1.p.Links.SGot.set a0.C (a1.heads.CGot.get a0.C)) } }, consumers := (znz a1.consumers a0.C (zc a1.consumers a0.C)) }))))))
                (.guard ((0 : Int) ≤ a0.C ∧ (a0.C : Int) < 2)
                (.guard ((0 : Int) ≤ 0 ∧ (0 : Int) < 2)
                (.ite (false)
                  (.leaf ((⟨0, 0⟩ : Reply), a1))
                  (.leaf ((⟨0, 0⟩ : Reply), { (a1 : Wld) with consumers := (znz a1.consumers a0.C ({ ((zc a1.consumers a0.C) : zb) with Seen := (⟨a1.heads.PHeight.get a0.C, a1.heads.PTime.get a0.C, a1.heads.PSaid.get a0.C, a1.heads.PGot.get a0.C⟩ : z7w) })) }))))))
              (.ite (a0.Kind == 9)
                (.bind (zg3 a0 a1) fun v1 =>
                (.leaf (v1.1, v1.2)))
                (.ite (a0.Kind == 10)
                  (.bind (zho a0 a1) fun v2 =>
                  (.leaf (v2.1, v2.2)))
                  (.ite (a0.Kind == 11)
                    (.guard ((zer (zc a1.consumers a0.C) a0.V a1.clock).isSome = true)
                    (.ite (((zer (zc a1.consumers a0.C) a0.V a1.clock).getD default).2 != 0)
                      (.leaf ((⟨((zer (zc a1.consumers a0.C) a0.V a1.clock).getD default).2, 0⟩ : Reply), a1))
                      (.leaf ((⟨0, 0⟩ : Reply), { (a1 : Wld) with consumers := (znz a1.consumers a0.C ((zer (zc a1.consumers a0.C) a0.V a1.clock).getD default).1) }))))
                    (.ite (a0.Kind == 12)
                      (.guard ((zdl (zc a1.consumers a0.C) a0.V a0.N a1.clock).isSome = true)
                      (.ite (((zdl (zc a1.consumers a0.C) a0.V a0.N a1.clock).getD default).2 != 0)
                        (.leaf ((⟨((zdl (zc a1.consumers a0.C) a0.V a0.N a1.clock).getD default).2, 0⟩ : Reply), a1))
                        (.leaf ((⟨0, 0⟩ : Reply), { (a1 : Wld) with consumers := (znz a1.consumers a0.C ((zdl (zc a1.consumers a0.C) a0.V a0.N a1.clock).getD default).1) }))))
                      (.ite (false)
                        (.leaf ((⟨0, 0⟩ : Reply), a1))
                        (.leaf ((⟨0, 0⟩ : Reply), { (a1 : Wld) with consumers := (znz a1.consumers a0.C (zc a1.consumers a0.C)) }))))))))))))))
def zg4 (a0 : Deed) (a1 : Wld) : Option (Reply × Wld) := (ze1 a0 a1).run
def zax2 : LQ (Deed × Wld) := (LQ.skip (LQ.const (.ptr 0 0)) (LQ.seq (Par.q (Par.ofLP deedL)) (LP.q zn0)))
def zlz : LQ (Reply × Wld) := (LQ.seq (Par.q (Par.ofLP zus)) (LP.q zn0))
def zns : SpecT := zv 1 zax2 2 [.cells 109 159] (fun s => ze1 s.1 s.2) default zlz 1 [.cells 109 159]
theorem zvn : zi Tryz.prog 65 (zns).spec :=
  zf (A := za9d) za9c Facts.mix Tryz.func65 (c := za8y) (by kernel_rfl) (Lc := 1) trivial zax2 2 7 [.cells 109 159] (fun s => ze1 s.1 s.2) default zlz 1 [.cells 109 159] [.pubN 0] (by decide) (by kernel_rfl) (by rfl) (by decide) (by decide) (by rfl)
    (by rintro ⟨a0, a1⟩; kernel_rfl)
noncomputable def za9e : Code := Tryz.f29.body.getD .skip
def za9f : List (List Nat) := [[0, 3, 4], [0, 3, 4, 7], [4], [0, 3, 4, 11], [4], [0, 3, 4], [0, 3, 4], [0, 3, 4, 6], [0, 3, 4, 6, 30], [4], [0, 3, 4, 6, 30, 34], [0, 4, 5, 6], [0, 3, 4, 6, 30, 47], [0, 4, 5, 6], [0, 3, 4, 6, 30, 64], [0, 4, 5, 6], [0, 3, 4, 6, 30, 75], [0, 4, 5, 6], [0, 3, 4, 30, 86], [0, 3, 4, 100], [4], [0, 4], [4], [0, 3, 4, 116], [4], [0, 4, 5, 6, 121], [4], [4], [4]]
noncomputable def za9g : EnvT := ⟨Tryz.prog, zr [(60, zqc), (61, znm), (62, zyx), (63, zqd), (64, znp), (65, zns)]⟩
theorem za9h : (za9g).Ok := ze ⟨zx7, zvk, z5u, zx8, zvl, zvn, trivial⟩
def za9i : Ann := ⟨[], [], [[1, 0, 0, 1]], za9f, []⟩
def zjr (a0 : Deed) (a1 : Wld) : Tr (Reply × Wld) :=
  (.ite (decide (a1.deeds ≥ 600))
    (.leaf ((⟨6, 0⟩ : Reply), a1))
    (.ite (a0.Kind == 1)
      (.bind (zis a1.p a0.D a0.V a0.N) fun v1 =>
      (.ite (v1.2 != 0)
        (.leaf ((⟨v1.2, 0⟩ : Reply), { (a1 : Wld) with deeds := IntKind.i64.wrap (a1.deeds + 1) }))
        (.leaf ((⟨0, 0⟩ : Reply), { (a1 : Wld) with p := v1.1, deeds := IntKind.i64.wrap (a1.deeds + 1) }))))
      (.ite (a0.Kind == 2)
        (.guard ((zbm a1.p a0.D a0.V a0.N a1.clock).isSome = true)
        (.ite (((zbm a1.p a0.D a0.V a0.N a1.clock).getD default).2 != 0)
          (.leaf ((⟨((zbm a1.p a0.D a0.V a0.N a1.clock).getD default).2, 0⟩ : Reply), { (a1 : Wld) with deeds := IntKind.i64.wrap (a1.deeds + 1) }))
          (.leaf ((⟨0, 0⟩ : Reply), { (a1 : Wld) with p := ((zbm a1.p a0.D a0.V a0.N a1.clock).getD default).1, deeds := IntKind.i64.wrap (a1.deeds + 1) }))))
        (.ite (a0.Kind == 3)
          (.bind (zp5 a1.p.Stake a0.V) fun v2 =>
          (.ite (v2.2 != 0)
            (.leaf ((⟨v2.2, 0⟩ : Reply), { (a1 : Wld) with deeds := IntKind.i64.wrap (a1.deeds + 1) }))
            (.leaf ((⟨0, 0⟩ : Reply), { (a1 : Wld) with p := { (a1.p : za) with Stake := v2.1 }, deeds := IntKind.i64.wrap (a1.deeds + 1) }))))
          (.ite (a0.Kind == 13)
            (.bind (ziu a1.p a0.V a0.N) fun v3 =>
            (.ite (v3.2 != 0)
              (.leaf ((⟨v3.2, 0⟩ : Reply), { (a1 : Wld) with deeds := IntKind.i64.wrap (a1.deeds + 1) }))
              (.leaf ((⟨0, 0⟩ : Reply), { (a1 : Wld) with p := v3.1, deeds := IntKind.i64.wrap (a1.deeds + 1) }))))
            (.ite (a0.Kind == 5)
              (.ite ((decide (a0.N < 1)) || (decide (a0.N > (IntKind.i64.wrap (1099511627736 - a1.clock)))))
                (.leaf ((⟨2, 0⟩ : Reply), { (a1 : Wld) with deeds := IntKind.i64.wrap (a1.deeds + 1) }))
                (.leaf ((⟨0, IntKind.i64.wrap (a1.clock + a0.N)⟩ : Reply), { (a1 : Wld) with clock := IntKind.i64.wrap (a1.clock + a0.N), deeds := IntKind.i64.wrap (a1.deeds + 1) })))
              (.ite (a0.Kind == 6)
                (.bind (zg2 ({ (a1 : Wld) with deeds := IntKind.i64.wrap (a1.deeds + 1) })) fun v4 =>
                (.leaf (v4.1, v4.2)))
                (.bind (zg4 a0 ({ (a1 : Wld) with deeds := IntKind.i64.wrap (a1.deeds + 1) })) fun v5 =>
                (.leaf (v5.1, v5.2))))))))))
def zbj (a0 : Deed) (a1 : Wld) : Option (Reply × Wld) := (zjr a0 a1).run
def zax3 : LQ (Deed × Wld) := (LQ.skip (LQ.const (.ptr 0 0)) (LQ.seq (Par.q (Par.ofLP deedL)) (LP.q zn0)))
def zs9 : LQ (Reply × Wld) := (LQ.seq (Par.q (Par.ofLP zus)) (LP.q zn0))
def zjs : SpecT := zv 1 zax3 2 [.cells 109 159] (fun s => zjr s.1 s.2) default zs9 1 [.cells 109 159]
theorem zma : zi Tryz.prog 29 (zjs).spec :=
  zf (A := za9i) za9h Facts.mix Tryz.func29 (c := za9e) (by kernel_rfl) (Lc := 1) trivial zax3 2 6 [.cells 109 159] (fun s => zjr s.1 s.2) default zs9 1 [.cells 109 159] [.pubN 0] (by decide) (by kernel_rfl) (by rfl) (by decide) (by decide) (by rfl)
    (by rintro ⟨a0, a1⟩; kernel_rfl)
end
end Go.Proofs.YtmakmlnfbdablaaGreat.Ab
