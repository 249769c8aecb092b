/-
  The functions, each by its tree.
-/
import Derived.Test.YtobfadhgiaphnaaGreatXAbFun
import Derived.Test.YtobfadhgiaphnaaGreatXAbStructs
import Derived.Test.YtobfadhgiaphnaaGreatXFCodec
import Derived.Test.YtobfadhgiaphnaaGreatXFLine
import Derived.Test.YtobfadhgiaphnaaGreatXFRefA
import Derived.Test.YtobfadhgiaphnaaGreatXFacts
namespace Go.Proofs.YtobfadhgiaphnaaGreat.Ab
open Go Go.RowKit
set_option maxRecDepth 100000
set_option linter.unusedVariables false
set_option linter.unusedSimpArgs false
noncomputable section
noncomputable def zlw : Code := Tryz.f13.body.getD .skip
def zoe : List (List Nat) := [[2, 3], [2, 3, 87], [4], [2, 3, 90, 91], [2, 3, 90, 91, 92], [2, 3, 5, 90, 91], [2, 3, 90, 91, 105], [4], [2, 3, 90, 91], [2, 3, 109, 110], [2, 3, 109, 110, 111], [2, 3, 6, 109, 110], [2, 3, 109, 110, 123], [4], [2, 3, 109, 110], [4]]
noncomputable def zof : EnvT := ⟨Tryz.prog, zdm [(40, zax), (42, zcj), (43, zbt)]⟩
theorem zog : (zof).Ok := zan ⟨zbg, zde, zcr, trivial⟩
def zw (x0 : Int) (x1 : Int) (x2 : ze) (x3 : ze) : Tr ((Int × Int × ze × ze) ⊕ ((Bool) ⊕ (ze × ze))) :=
 (.ite (decide (x1 < x0))
  (.guard ((0 : Int) ≤ x1 ∧ x1 < ((Sl.len (.packets x2.Pending) : Nat) : Int))
  (.guard ((0 : Int) ≤ x1 ∧ x1 < ((Sl.len (.packets x3.Pending) : Nat) : Int))
  (.guard ((z2 (x2.Pending.getD x1.toNat default) (x3.Pending.getD x1.toNat default)).isSome = true)
  (.ite (!((z2 (x2.Pending.getD x1.toNat default) (x3.Pending.getD x1.toNat default)).getD default))
   (.leaf (.inr (.inl false)))
   (.leaf (.inl (x0, IntKind.i64.wrap (x1 + 1), x2, x3)))))))
  (.leaf (.inr (.inr (x2, x3)))))
def zac (x0 : Int) (x1 : Int) (x2 : ze) (x3 : ze) : Option ((Bool) ⊕ (ze × ze)) := zev (fun s : Int × Int × ze × ze => (zw s.1 s.2.1 s.2.2.1 s.2.2.2).run) (x0, x1, x2, x3)
def zqb : Ann := ⟨[], [], [], zoe, []⟩
def zqc : EndD (Int × Int × ze × ze) := ⟨(LQ.skip (LQ.const (.ptr 0 0)) (LQ.skip (LQ.const (.ptr 1 0)) (LQ.seq (Par.q intP) (LQ.seq (Par.q intP) (LQ.seq (LP.q za7) (LP.q za7)))))), ⟨[2, 3, 90, 91], []⟩, [.cells 70 22, .cells 70 22]⟩
def zmy : EndD (Bool) := ⟨(Par.q boolP), ⟨[4], []⟩, []⟩
def zmz : EndD (ze × ze) := ⟨(LQ.skip (LQ.const (.ptr 0 0)) (LQ.skip (LQ.const (.ptr 1 0)) (LQ.seq (LP.q za7) (LP.q za7)))), ⟨[2, 3], []⟩, [.cells 70 22, .cells 70 22]⟩
def znr : St → Option LR := L2 125 4 0 zqc .ret zmy (.exit 0) zmz (fun s => zw s.1 s.2.1 s.2.2.1 s.2.2.2)
theorem zqd : zbs (zof).env 0 (sub zlw [0, 1, 0, 1, 1]) znr :=
 zib (A := zqb) zog Facts.mix trivial (k := zia (sub zlw [0, 1, 0, 1, 1])) (by kernel_rfl) rfl rfl (by rintro ⟨x0, x1, x2, x3⟩; kernel_rfl)
def zx (x0 : Int) (x1 : Int) (x2 : ze) (x3 : ze) : Tr ((Int × Int × ze × ze) ⊕ ((Bool) ⊕ (Unit))) :=
 (.ite (decide (x1 < x0))
  (.guard ((0 : Int) ≤ x1 ∧ x1 < ((Sl.len (.ripes x2.Ripes) : Nat) : Int))
  (.guard ((0 : Int) ≤ x1 ∧ x1 < ((Sl.len (.ripes x3.Ripes) : Nat) : Int))
  (.ite (!((((x2.Ripes.getD x1.toNat default).Id) == ((x3.Ripes.getD x1.toNat default).Id)) && ((((x2.Ripes.getD x1.toNat default).Due) == ((x3.Ripes.getD x1.toNat default).Due)) && true)))
   (.leaf (.inr (.inl false)))
   (.leaf (.inl (x0, IntKind.i64.wrap (x1 + 1), x2, x3))))))
  (.leaf (.inr (.inr ()))))
def zad (x0 : Int) (x1 : Int) (x2 : ze) (x3 : ze) : Option ((Bool) ⊕ (Unit)) := zev (fun s : Int × Int × ze × ze => (zx s.1 s.2.1 s.2.2.1 s.2.2.2).run) (x0, x1, x2, x3)
def zqe : Ann := ⟨[], [], [], zoe, []⟩
def zqf : EndD (Int × Int × ze × ze) := ⟨(LQ.skip (LQ.const (.ptr 0 0)) (LQ.skip (LQ.const (.ptr 1 0)) (LQ.seq (Par.q intP) (LQ.seq (Par.q intP) (LQ.seq (LP.q za7) (LP.q za7)))))), ⟨[2, 3, 109, 110], []⟩, [.cells 70 22, .cells 70 22]⟩
def zm0 : EndD (Bool) := ⟨(Par.q boolP), ⟨[4], []⟩, []⟩
def zm1 : EndD (Unit) := ⟨LQ.nil, ⟨[], []⟩, []⟩
def zns : St → Option LR := L2 125 4 0 zqf .ret zm0 (.exit 2) zm1 (fun s => zx s.1 s.2.1 s.2.2.1 s.2.2.2)
theorem zqg : zbs (zof).env 0 (sub zlw [0, 1, 0, 1, 1, 1]) zns :=
 zib (A := zqe) zog Facts.mix trivial (k := zia (sub zlw [0, 1, 0, 1, 1, 1])) (by kernel_rfl) rfl rfl (by rintro ⟨x0, x1, x2, x3⟩; kernel_rfl)
def zr1 : Ann := ⟨[([0, 1, 0, 1, 1], znr), ([0, 1, 0, 1, 1, 1], zns)], [], [], zoe, []⟩
def zah (a0 : ze) (a1 : ze) : Tr (Bool) :=
 (.guard (((((((((!(a0.On == a1.On)) || (!(a0.Gone == a1.Gone))) || (a0.Height != a1.Height)) || (a0.Time != a1.Time)) || (a0.Id != a1.Id)) || (!(zfz a0.Flags a1.Flags))) || (!(zet a0.Seen a1.Seen))) = false → ((zf a0.Set a1.Set).isSome = true) ∧ True))
 (.guard ((((((((((!(a0.On == a1.On)) || (!(a0.Gone == a1.Gone))) || (a0.Height != a1.Height)) || (a0.Time != a1.Time)) || (a0.Id != a1.Id)) || (!(zfz a0.Flags a1.Flags))) || (!(zet a0.Seen a1.Seen))) || (!((zf a0.Set a1.Set).getD default))) = false → ((z8 a0.Out a1.Out).isSome = true) ∧ True))
 (.ite (((((((((((!(a0.On == a1.On)) || (!(a0.Gone == a1.Gone))) || (a0.Height != a1.Height)) || (a0.Time != a1.Time)) || (a0.Id != a1.Id)) || (!(zfz a0.Flags a1.Flags))) || (!(zet a0.Seen a1.Seen))) || (!((zf a0.Set a1.Set).getD default))) || (!((z8 a0.Out a1.Out).getD default))) || (((a0.Pending.length : Nat) : Int) != ((a1.Pending.length : Nat) : Int))) || (((a0.Ripes.length : Nat) : Int) != ((a1.Ripes.length : Nat) : Int)))
  (.leaf false)
  (.two (zac ((a0.Pending.length : Nat) : Int) 0 a0 a1) (fun v1 =>
   (.leaf v1)) (fun v2 =>
   (.two (zad ((v2.1.Ripes.length : Nat) : Int) 0 v2.1 v2.2) (fun v3 =>
    (.leaf v3)) (fun v4 =>
    (.leaf true))))))))
def z4 (a0 : ze) (a1 : ze) : Option (Bool) := (zah a0 a1).run
def zqh : LQ (ze × ze) := (LQ.seq (Par.q (Par.ofLP za7)) (Par.q (Par.ofLP za7)))
def zb6 : LQ (Bool) := (Par.q boolP)
def zch : SpecT := zej 0 zqh 2 [] (fun s => zah s.1 s.2) default zb6 1 []
theorem zd6 : zbd Tryz.prog 13 (zch).spec :=
 zav (A := zr1) zog Facts.mix Tryz.func13 (c := zlw) (by kernel_rfl) (Lc := 0) ⟨zqd, zqg, trivial⟩ zqh 2 4 [] (fun s => zah s.1 s.2) default zb6 1 [] [] (by decide) (by kernel_rfl) (by rfl) (by decide) (by decide) (by rfl)
  (by rintro ⟨a0, a1⟩; kernel_rfl)
end
