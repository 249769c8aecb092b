/-
  The functions, each by its tree.
-/
import Derived.Test.YtobfadhgiaphnaaGreatXAbFun
import Derived.Test.YtobfadhgiaphnaaGreatXAbStructs
import Derived.Test.YtobfadhgiaphnaaGreatXFCodec
import Derived.Test.YtobfadhgiaphnaaGreatXFLine
import Derived.Test.YtobfadhgiaphnaaGreatXFRefA
import Derived.Test.YtobfadhgiaphnaaGreatXFRefC
import Derived.Test.YtobfadhgiaphnaaGreatXFacts
namespace Go.Proofs.YtobfadhgiaphnaaGreat.Ab
open Go Go.RowKit
set_option maxRecDepth 100000
set_option linter.unusedVariables false
set_option linter.unusedSimpArgs false
noncomputable section
noncomputable def zlx : Code := Tryz.f11.body.getD .skip
def zoh : List (List Nat) := [[2, 3], [2, 3, 52], [4], [2, 3, 53], [2, 3, 53, 54], [2, 3, 5, 53], [2, 3, 6, 7, 53], [2, 3, 53, 120], [4], [2, 3, 53], [2, 3, 124, 125], [2, 3, 124, 125, 126], [2, 3, 8, 124, 125], [2, 3, 124, 125, 156], [4], [2, 3, 124, 125], [4]]
noncomputable def zoi : EnvT := ⟨Tryz.prog, zdm [(39, zdf), (40, zax), (41, zaq), (42, zcj), (43, zbt)]⟩
theorem zoj : (zoi).Ok := zan ⟨ze8, zbg, za9, zde, zcr, trivial⟩
def zr (x0 : Int) (x1 : za) (x2 : za) : Tr ((Int × za × za) ⊕ ((Bool) ⊕ (za × za))) :=
 (.ite (decide (x0 < 2))
  (.guard ((0 : Int) ≤ x0 ∧ (x0 : Int) < 2)
  (.guard ((0 : Int) ≤ x0 ∧ (x0 : Int) < 2)
  (.guard (((((((!((x1.Links.On.get x0) == (x2.Links.On.get x0))) || (!((x1.Links.Gone.get x0) == (x2.Links.Gone.get x0)))) || ((x1.Links.Base.get x0) != (x2.Links.Base.get x0))) || (!((x1.Links.Fresh.get x0) == (x2.Links.Fresh.get x0)))) || (!(zet (⟨x1.Links.SHeight.get x0, x1.Links.STime.get x0, x1.Links.SSaid.get x0, x1.Links.SGot.get x0⟩ : zj1) (⟨x2.Links.SHeight.get x0, x2.Links.STime.get x0, x2.Links.SSaid.get x0, x2.Links.SGot.get x0⟩ : zj1)))) = false → ((zf (x1.Links.Told.get x0) (x2.Links.Told.get x0)).isSome = true) ∧ True))
  (.guard ((((((((!((x1.Links.On.get x0) == (x2.Links.On.get x0))) || (!((x1.Links.Gone.get x0) == (x2.Links.Gone.get x0)))) || ((x1.Links.Base.get x0) != (x2.Links.Base.get x0))) || (!((x1.Links.Fresh.get x0) == (x2.Links.Fresh.get x0)))) || (!(zet (⟨x1.Links.SHeight.get x0, x1.Links.STime.get x0, x1.Links.SSaid.get x0, x1.Links.SGot.get x0⟩ : zj1) (⟨x2.Links.SHeight.get x0, x2.Links.STime.get x0, x2.Links.SSaid.get x0, x2.Links.SGot.get x0⟩ : zj1)))) || (!((zf (x1.Links.Told.get x0) (x2.Links.Told.get x0)).getD default))) = false → ((zp (x1.Links.Done.get x0) (x2.Links.Done.get x0)).isSome = true) ∧ True))
  (.guard (((((((((!((x1.Links.On.get x0) == (x2.Links.On.get x0))) || (!((x1.Links.Gone.get x0) == (x2.Links.Gone.get x0)))) || ((x1.Links.Base.get x0) != (x2.Links.Base.get x0))) || (!((x1.Links.Fresh.get x0) == (x2.Links.Fresh.get x0)))) || (!(zet (⟨x1.Links.SHeight.get x0, x1.Links.STime.get x0, x1.Links.SSaid.get x0, x1.Links.SGot.get x0⟩ : zj1) (⟨x2.Links.SHeight.get x0, x2.Links.STime.get x0, x2.Links.SSaid.get x0, x2.Links.SGot.get x0⟩ : zj1)))) || (!((zf (x1.Links.Told.get x0) (x2.Links.Told.get x0)).getD default))) || (!((zp (x1.Links.Done.get x0) (x2.Links.Done.get x0)).getD default))) = false → ((z8 (⟨x1.Links.Said.get x0, x1.Links.Due.get x0, x1.Links.Got.get x0, x1.Links.Closed.get x0⟩ : zc2) (⟨x2.Links.Said.get x0, x2.Links.Due.get x0, x2.Links.Got.get x0, x2.Links.Closed.get x0⟩ : zc2)).isSome = true) ∧ True))
  (.ite ((((((((!((x1.Links.On.get x0) == (x2.Links.On.get x0))) || (!((x1.Links.Gone.get x0) == (x2.Links.Gone.get x0)))) || ((x1.Links.Base.get x0) != (x2.Links.Base.get x0))) || (!((x1.Links.Fresh.get x0) == (x2.Links.Fresh.get x0)))) || (!(zet (⟨x1.Links.SHeight.get x0, x1.Links.STime.get x0, x1.Links.SSaid.get x0, x1.Links.SGot.get x0⟩ : zj1) (⟨x2.Links.SHeight.get x0, x2.Links.STime.get x0, x2.Links.SSaid.get x0, x2.Links.SGot.get x0⟩ : zj1)))) || (!((zf (x1.Links.Told.get x0) (x2.Links.Told.get x0)).getD default))) || (!((zp (x1.Links.Done.get x0) (x2.Links.Done.get x0)).getD default))) || (!((z8 (⟨x1.Links.Said.get x0, x1.Links.Due.get x0, x1.Links.Got.get x0, x1.Links.Closed.get x0⟩ : zc2) (⟨x2.Links.Said.get x0, x2.Links.Due.get x0, x2.Links.Got.get x0, x2.Links.Closed.get x0⟩ : zc2)).getD default)))
   (.leaf (.inr (.inl false)))
   (.leaf (.inl (IntKind.i64.wrap (x0 + 1), x1, x2)))))))))
  (.leaf (.inr (.inr (x1, x2)))))
def zae (x0 : Int) (x1 : za) (x2 : za) : Option ((Bool) ⊕ (za × za)) := zev (fun s : Int × za × za => (zr s.1 s.2.1 s.2.2).run) (x0, x1, x2)
def zqi : Ann := ⟨[], [], [], zoh, []⟩
def zqj : EndD (Int × za × za) := ⟨(LQ.skip (LQ.const (.ptr 0 0)) (LQ.skip (LQ.const (.ptr 1 0)) (LQ.seq (Par.q intP) (LQ.seq (LP.q za8) (LP.q za8))))), ⟨[2, 3, 53], []⟩, [.cells 63 97, .cells 63 97]⟩
def zm2 : EndD (Bool) := ⟨(Par.q boolP), ⟨[4], []⟩, []⟩
def zm3 : EndD (za × za) := ⟨(LQ.skip (LQ.const (.ptr 0 0)) (LQ.skip (LQ.const (.ptr 1 0)) (LQ.seq (LP.q za8) (LP.q za8)))), ⟨[2, 3], []⟩, [.cells 63 97, .cells 63 97]⟩
def znt : St → Option LR := L2 158 6 0 zqj .ret zm2 (.exit 0) zm3 (fun s => zr s.1 s.2.1 s.2.2)
theorem zqk : zbs (zoi).env 0 (sub zlx [0, 1, 0, 1, 1]) znt :=
 zib (A := zqi) zoj Facts.mix trivial (k := zia (sub zlx [0, 1, 0, 1, 1])) (by kernel_rfl) rfl rfl (by rintro ⟨x0, x1, x2⟩; kernel_rfl)
def zy (x0 : Int) (x1 : Int) (x2 : za) (x3 : za) : Tr ((Int × Int × za × za) ⊕ ((Bool) ⊕ (Unit))) :=
 (.ite (decide (x1 < x0))
  (.guard ((0 : Int) ≤ x1 ∧ x1 < ((Sl.len (.asked x2.Queue) : Nat) : Int))
  (.guard ((0 : Int) ≤ x1 ∧ x1 < ((Sl.len (.asked x3.Queue) : Nat) : Int))
  (.guard (((((x2.Queue.getD x1.toNat default).C) != ((x3.Queue.getD x1.toNat default).C)) = false → ((0 : Int) ≤ x1 ∧ x1 < ((Sl.len (.asked x2.Queue) : Nat) : Int)) ∧ True))
  (.guard (((((x2.Queue.getD x1.toNat default).C) != ((x3.Queue.getD x1.toNat default).C)) = false → ((0 : Int) ≤ x1 ∧ x1 < ((Sl.len (.asked x3.Queue) : Nat) : Int)) ∧ True))
  (.guard (((((x2.Queue.getD x1.toNat default).C) != ((x3.Queue.getD x1.toNat default).C)) = false → ((z2 ((x2.Queue.getD x1.toNat default).P) ((x3.Queue.getD x1.toNat default).P)).isSome = true) ∧ True))
  (.ite ((((x2.Queue.getD x1.toNat default).C) != ((x3.Queue.getD x1.toNat default).C)) || (!((z2 ((x2.Queue.getD x1.toNat default).P) ((x3.Queue.getD x1.toNat default).P)).getD default)))
   (.leaf (.inr (.inl false)))
   (.leaf (.inl (x0, IntKind.i64.wrap (x1 + 1), x2, x3)))))))))
  (.leaf (.inr (.inr ()))))
def zaf (x0 : Int) (x1 : Int) (x2 : za) (x3 : za) : Option ((Bool) ⊕ (Unit)) := zev (fun s : Int × Int × za × za => (zy s.1 s.2.1 s.2.2.1 s.2.2.2).run) (x0, x1, x2, x3)
def zql : Ann := ⟨[], [], [], zoh, []⟩
def zqm : EndD (Int × Int × za × za) := ⟨(LQ.skip (LQ.const (.ptr 0 0)) (LQ.skip (LQ.const (.ptr 1 0)) (LQ.seq (Par.q intP) (LQ.seq (Par.q intP) (LQ.seq (LP.q za8) (LP.q za8)))))), ⟨[2, 3, 124, 125], []⟩, [.cells 63 97, .cells 63 97]⟩
def zm4 : EndD (Bool) := ⟨(Par.q boolP), ⟨[4], []⟩, []⟩
def zm5 : EndD (Unit) := ⟨LQ.nil, ⟨[], []⟩, []⟩
def znu : St → Option LR := L2 158 6 0 zqm .ret zm4 (.exit 2) zm5 (fun s => zy s.1 s.2.1 s.2.2.1 s.2.2.2)
theorem zqn : zbs (zoi).env 0 (sub zlx [0, 1, 0, 1, 1, 1]) znu :=
 zib (A := zql) zoj Facts.mix trivial (k := zia (sub zlx [0, 1, 0, 1, 1, 1])) (by kernel_rfl) rfl rfl (by rintro ⟨x0, x1, x2, x3⟩; kernel_rfl)
def zr2 : Ann := ⟨[([0, 1, 0, 1, 1], znt), ([0, 1, 0, 1, 1, 1], znu)], [], [], zoh, []⟩
def zai (a0 : za) (a1 : za) : Tr (Bool) :=
 (.guard ((((a0.Height != a1.Height) || (a0.Time != a1.Time)) = false → ((zaa a0.Stake a1.Stake).isSome = true) ∧ True))
 (.guard (((((a0.Height != a1.Height) || (a0.Time != a1.Time)) || (!((zaa a0.Stake a1.Stake).getD default))) = false → ((zf a0.Set a1.Set).isSome = true) ∧ True))
 (.ite ((((((a0.Height != a1.Height) || (a0.Time != a1.Time)) || (!((zaa a0.Stake a1.Stake).getD default))) || (!((zf a0.Set a1.Set).getD default))) || (!((a0.Meter.Left == a1.Meter.Left) && ((a0.Meter.Next == a1.Meter.Next) && true)))) || (((a0.Queue.length : Nat) : Int) != ((a1.Queue.length : Nat) : Int)))
  (.leaf false)
  (.two (zae 0 a0 a1) (fun v1 =>
   (.leaf v1)) (fun v2 =>
   (.two (zaf ((v2.1.Queue.length : Nat) : Int) 0 v2.1 v2.2) (fun v3 =>
    (.leaf v3)) (fun v4 =>
    (.leaf true))))))))
def zq (a0 : za) (a1 : za) : Option (Bool) := (zai a0 a1).run
def zqo : LQ (za × za) := (LQ.seq (Par.q (Par.ofLP za8)) (Par.q (Par.ofLP za8)))
def zb7 : LQ (Bool) := (Par.q boolP)
def zci : SpecT := zej 0 zqo 2 [] (fun s => zai s.1 s.2) default zb7 1 []
theorem zd7 : zbd Tryz.prog 11 (zci).spec :=
 zav (A := zr2) zoj Facts.mix Tryz.func11 (c := zlx) (by kernel_rfl) (Lc := 0) ⟨zqk, zqn, trivial⟩ zqo 2 6 [] (fun s => zai s.1 s.2) default zb7 1 [] [] (by decide) (by kernel_rfl) (by rfl) (by decide) (by decide) (by rfl)
  (by rintro ⟨a0, a1⟩; kernel_rfl)
end
