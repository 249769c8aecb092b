/-
  The functions, each by its tree.
-/
import Derived.Test.YtobfadhgiaphnaaGreatXAbFun
import Derived.Test.YtobfadhgiaphnaaGreatXAbStructs
import Derived.Test.YtobfadhgiaphnaaGreatChecked
import Derived.Deep.QuietTactic
import Derived.Ground.GgsProg
import Derived.Ground.GgtProg
import Derived.Shelf.GgSortFunc.SmallK
import Derived.Shelf.GgSortMore.Stable
import Derived.Shelf.Lay
import Derived.Sort.OwnSortedInts
import Derived.Test.YtobfadhgiaphnaaGreatXFacts
namespace Go.Proofs.YtobfadhgiaphnaaGreat.Ab
open Go Go.RowKit
set_option maxRecDepth 100000
set_option linter.unusedVariables false
set_option linter.unusedSimpArgs false
noncomputable section
noncomputable def zod : Code := Tryz.f39.body.getD .skip
def zp4 : List (List Nat) := [[2, 3], [2, 3, 40], [4], [2, 3, 43, 44], [2, 3, 43, 44, 45], [2, 3, 5, 43, 44], [2, 3, 43, 44, 57], [4], [2, 3, 43, 44], [4]]
noncomputable def zp5 : EnvT := ⟨Tryz.prog, zdm []⟩
theorem zp6 : (zp5).Ok := zan trivial
def z5 (x0 : Int) (x1 : Int) (x2 : Stake) (x3 : Stake) : Tr ((Int × Int × Stake × Stake) ⊕ ((Bool) ⊕ (Unit))) :=
 (.ite (decide (x1 < x0))
  (.guard ((0 : Int) ≤ x1 ∧ x1 < ((Sl.len (.waits x2.Waits) : Nat) : Int))
  (.guard ((0 : Int) ≤ x1 ∧ x1 < ((Sl.len (.waits x3.Waits) : Nat) : Int))
  (.ite (!(zlu (x2.Waits.getD x1.toNat default) (x3.Waits.getD x1.toNat default)))
   (.leaf (.inr (.inl false)))
   (.leaf (.inl (x0, IntKind.i64.wrap (x1 + 1), x2, x3))))))
  (.leaf (.inr (.inr ()))))
def za0 (x0 : Int) (x1 : Int) (x2 : Stake) (x3 : Stake) : Option ((Bool) ⊕ (Unit)) := zev (fun s : Int × Int × Stake × Stake => (z5 s.1 s.2.1 s.2.2.1 s.2.2.2).run) (x0, x1, x2, x3)
def zp7 : Ann := ⟨[], [], [], zp4, []⟩
def zp8 : EndD (Int × Int × Stake × Stake) := ⟨(LQ.skip (LQ.const (.ptr 0 0)) (LQ.skip (LQ.const (.ptr 1 0)) (LQ.seq (Par.q intP) (LQ.seq (Par.q intP) (LQ.seq (LP.q stakeL) (LP.q stakeL)))))), ⟨[2, 3, 43, 44], []⟩, [.cells 48 63, .cells 48 63]⟩
def zmw : EndD (Bool) := ⟨(Par.q boolP), ⟨[4], []⟩, []⟩
def zmx : EndD (Unit) := ⟨LQ.nil, ⟨[], []⟩, []⟩
def znq : St → Option LR := L2 59 4 0 zp8 .ret zmw (.exit 0) zmx (fun s => z5 s.1 s.2.1 s.2.2.1 s.2.2.2)
theorem zp9 : zbs (zp5).env 0 (sub zod [0, 1, 0, 1, 1]) znq :=
 zib (A := zp7) zp6 Facts.mix trivial (k := zia (sub zod [0, 1, 0, 1, 1])) (by kernel_rfl) rfl rfl (by rintro ⟨x0, x1, x2, x3⟩; kernel_rfl)
def zr0 : Ann := ⟨[([0, 1, 0, 1, 1], znq)], [], [], zp4, []⟩
def zba (a0 : Stake) (a1 : Stake) : Tr (Bool) :=
 (.ite (((((!(zls a0.Bank a1.Bank)) || (!(zlt a0.Validators a1.Validators))) || (!(zhv a0.Shares a1.Shares))) || (a0.Next != a1.Next)) || (((a0.Waits.length : Nat) : Int) != ((a1.Waits.length : Nat) : Int)))
  (.leaf false)
  (.two (za0 ((a0.Waits.length : Nat) : Int) 0 a0 a1) (fun v1 =>
   (.leaf v1)) (fun v2 =>
   (.leaf true))))
def zaa (a0 : Stake) (a1 : Stake) : Option (Bool) := (zba a0 a1).run
def zqa : LQ (Stake × Stake) := (LQ.seq (Par.q (Par.ofLP stakeL)) (Par.q (Par.ofLP stakeL)))
def zc1 : LQ (Bool) := (Par.q boolP)
def zdf : SpecT := zej 0 zqa 2 [] (fun s => zba s.1 s.2) default zc1 1 []
theorem ze8 : zbd Tryz.prog 39 (zdf).spec :=
 zav (A := zr0) zp6 Facts.mix Tryz.func39 (c := zod) (by kernel_rfl) (Lc := 0) ⟨zp9, trivial⟩ zqa 2 4 [] (fun s => zba s.1 s.2) default zc1 1 [] [] (by decide) (by kernel_rfl) (by rfl) (by decide) (by decide) (by rfl)
  (by rintro ⟨a0, a1⟩; kernel_rfl)
end
