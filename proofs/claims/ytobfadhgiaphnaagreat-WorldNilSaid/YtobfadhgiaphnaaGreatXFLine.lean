/-
  The functions, each by its tree.
-/
import Derived.Test.YtobfadhgiaphnaaGreatXAbFun
import Derived.Test.YtobfadhgiaphnaaGreatXAbStructs
import Derived.Test.YtobfadhgiaphnaaGreatXFacts
namespace Go.Proofs.YtobfadhgiaphnaaGreat.Ab
open Go Go.RowKit
set_option maxRecDepth 100000
set_option linter.unusedVariables false
set_option linter.unusedSimpArgs false
noncomputable section
noncomputable def zoa : Code := Tryz.f41.body.getD .skip
def zpi : List (List Nat) := [[0, 1], [0, 1, 10], [4], [0, 1, 12, 13], [0, 1, 12, 13, 14], [0, 1, 5, 12, 13], [0, 1, 12, 13, 24], [4], [0, 1, 12, 13], [4]]
noncomputable def zpj : EnvT := ⟨Tryz.prog, zdm []⟩
theorem zpk : (zpj).Ok := zan trivial
def z6 (x0 : (List Int)) (x1 : (List Int)) (x2 : Int) (x3 : Int) : Tr (((List Int) × (List Int) × Int × Int) ⊕ ((Bool) ⊕ (Unit))) :=
 (.ite (decide (x3 < x2))
  (.guard ((0 : Int) ≤ x3 ∧ x3 < ((Sl.len (.ints x0) : Nat) : Int))
  (.guard ((0 : Int) ≤ x3 ∧ x3 < ((Sl.len (.ints x1) : Nat) : Int))
  (.ite ((x0.getD x3.toNat 0) != (x1.getD x3.toNat 0))
   (.leaf (.inr (.inl false)))
   (.leaf (.inl (x0, x1, x2, IntKind.i64.wrap (x3 + 1)))))))
  (.leaf (.inr (.inr ()))))
def zbp (x0 : (List Int)) (x1 : (List Int)) (x2 : Int) (x3 : Int) : Option ((Bool) ⊕ (Unit)) := zev (fun s : (List Int) × (List Int) × Int × Int => (z6 s.1 s.2.1 s.2.2.1 s.2.2.2).run) (x0, x1, x2, x3)
def zpl : Ann := ⟨[], [], [], zpi, []⟩
def zpm : EndD ((List Int) × (List Int) × Int × Int) := ⟨(LQ.seq (Par.q zjb) (LQ.seq (Par.q zjb) (LQ.seq (Par.q intP) (Par.q intP)))), ⟨[0, 1, 12, 13], [.pub 0, .nilsl 0 (.ints []), .pub 1, .nilsl 1 (.ints [])]⟩, []⟩
def zmq : EndD (Bool) := ⟨(Par.q boolP), ⟨[4], []⟩, []⟩
def zmr : EndD (Unit) := ⟨LQ.nil, ⟨[], []⟩, []⟩
def znn : St → Option LR := L2 26 2 0 zpm .ret zmq (.exit 0) zmr (fun s => z6 s.1 s.2.1 s.2.2.1 s.2.2.2)
theorem zpn : zbs (zpj).env 0 (sub zoa [0, 1, 0, 1, 1]) znn :=
 zib (A := zpl) zpk Facts.mix trivial (k := zia (sub zoa [0, 1, 0, 1, 1])) (by kernel_rfl) rfl rfl (by rintro ⟨x0, x1, x2, x3⟩; kernel_rfl)
def zrs : Ann := ⟨[([0, 1, 0, 1, 1], znn)], [], [], zpi, []⟩
def zap (a0 : (List Int)) (a1 : (List Int)) : Tr (Bool) :=
 (.ite (((a0.length : Nat) : Int) != ((a1.length : Nat) : Int))
  (.leaf false)
  (.two (zbp a0 a1 ((a0.length : Nat) : Int) 0) (fun v1 =>
   (.leaf v1)) (fun v2 =>
   (.leaf true))))
def zp (a0 : (List Int)) (a1 : (List Int)) : Option (Bool) := (zap a0 a1).run
def zpo : LQ ((List Int) × (List Int)) := (LQ.seq (Par.q zjb) (Par.q zjb))
def zcf : LQ (Bool) := (Par.q boolP)
def zaq : SpecT := zej 0 zpo 2 [] (fun s => zap s.1 s.2) default zcf 1 []
theorem za9 : zbd Tryz.prog 41 (zaq).spec :=
 zav (A := zrs) zpk Facts.mix Tryz.func41 (c := zoa) (by kernel_rfl) (Lc := 0) ⟨zpn, trivial⟩ zpo 2 2 [] (fun s => zap s.1 s.2) default zcf 1 [] [] (by decide) (by kernel_rfl) (by rfl) (by decide) (by decide) (by rfl)
  (by rintro ⟨a0, a1⟩; kernel_rfl)
noncomputable def zob : Code := Tryz.f42.body.getD .skip
def zpp : List (List Nat) := [[2, 3], [2, 3, 26], [4], [2, 3, 29, 30], [2, 3, 29, 30, 31], [2, 3, 5, 29, 30], [2, 3, 29, 30, 43], [4], [2, 3, 29, 30], [4]]
noncomputable def zpq : EnvT := ⟨Tryz.prog, zdm [(41, zaq)]⟩
theorem zpr : (zpq).Ok := zan ⟨za9, trivial⟩
def zar (x0 : Int) (x1 : Int) (x2 : zc2) (x3 : zc2) : Tr ((Int × Int × zc2 × zc2) ⊕ ((Bool) ⊕ (zc2 × zc2))) :=
 (.ite (decide (x1 < x0))
  (.guard ((0 : Int) ≤ x1 ∧ x1 < ((Sl.len (.strs x2.Said) : Nat) : Int))
  (.guard ((0 : Int) ≤ x1 ∧ x1 < ((Sl.len (.strs x3.Said) : Nat) : Int))
  (.ite (!((x2.Said.getD x1.toNat .empty).toList == (x3.Said.getD x1.toNat .empty).toList))
   (.leaf (.inr (.inl false)))
   (.leaf (.inl (x0, IntKind.i64.wrap (x1 + 1), x2, x3))))))
  (.leaf (.inr (.inr (x2, x3)))))
def zcg (x0 : Int) (x1 : Int) (x2 : zc2) (x3 : zc2) : Option ((Bool) ⊕ (zc2 × zc2)) := zev (fun s : Int × Int × zc2 × zc2 => (zar s.1 s.2.1 s.2.2.1 s.2.2.2).run) (x0, x1, x2, x3)
def zps : Ann := ⟨[], [], [], zpp, []⟩
def zpt : EndD (Int × Int × zc2 × zc2) := ⟨(LQ.skip (LQ.const (.ptr 0 0)) (LQ.skip (LQ.const (.ptr 1 0)) (LQ.seq (Par.q intP) (LQ.seq (Par.q intP) (LQ.seq (LP.q lineL) (LP.q lineL)))))), ⟨[2, 3, 29, 30], []⟩, [.cells 53 4, .cells 53 4]⟩
def zms : EndD (Bool) := ⟨(Par.q boolP), ⟨[4], []⟩, []⟩
def zmt : EndD (zc2 × zc2) := ⟨(LQ.skip (LQ.const (.ptr 0 0)) (LQ.skip (LQ.const (.ptr 1 0)) (LQ.seq (LP.q lineL) (LP.q lineL)))), ⟨[2, 3], []⟩, [.cells 53 4, .cells 53 4]⟩
def zno : St → Option LR := L2 50 4 0 zpt .ret zms (.exit 0) zmt (fun s => zar s.1 s.2.1 s.2.2.1 s.2.2.2)
theorem zpu : zbs (zpq).env 0 (sub zob [0, 1, 0, 1, 1]) zno :=
 zib (A := zps) zpr Facts.mix trivial (k := zia (sub zob [0, 1, 0, 1, 1])) (by kernel_rfl) rfl rfl (by rintro ⟨x0, x1, x2, x3⟩; kernel_rfl)
def zrt : Ann := ⟨[([0, 1, 0, 1, 1], zno)], [], [], zpp, []⟩
def zbj (a0 : zc2) (a1 : zc2) : Tr (Bool) :=
 (.ite (((((a0.Said.length : Nat) : Int) != ((a1.Said.length : Nat) : Int)) || (a0.Got != a1.Got)) || (!(a0.Closed == a1.Closed)))
  (.leaf false)
  (.two (zcg ((a0.Said.length : Nat) : Int) 0 a0 a1) (fun v1 =>
   (.leaf v1)) (fun v2 =>
   (.bind (zp v2.1.Due v2.2.Due) fun v3 =>
   (.leaf v3)))))
def z8 (a0 : zc2) (a1 : zc2) : Option (Bool) := (zbj a0 a1).run
def zpv : LQ (zc2 × zc2) := (LQ.seq (Par.q (Par.ofLP lineL)) (Par.q (Par.ofLP lineL)))
def zdd : LQ (Bool) := (Par.q boolP)
def zcj : SpecT := zej 0 zpv 2 [] (fun s => zbj s.1 s.2) default zdd 1 []
theorem zde : zbd Tryz.prog 42 (zcj).spec :=
 zav (A := zrt) zpr Facts.mix Tryz.func42 (c := zob) (by kernel_rfl) (Lc := 0) ⟨zpu, trivial⟩ zpv 2 4 [] (fun s => zbj s.1 s.2) default zdd 1 [] [] (by decide) (by kernel_rfl) (by rfl) (by decide) (by decide) (by rfl)
  (by rintro ⟨a0, a1⟩; kernel_rfl)
end
