/-
  The functions, each by its tree.
-/
import Derived.Test.YtobfadhgiaphnaaGreatXAbFun
import Derived.Test.YtobfadhgiaphnaaGreatXAbStructs
import Derived.Test.YtobfadhgiaphnaaGreatXFLine
import Derived.Test.YtobfadhgiaphnaaGreatXFacts
namespace Go.Proofs.YtobfadhgiaphnaaGreat.Ab
open Go Go.RowKit
set_option maxRecDepth 100000
set_option linter.unusedVariables false
set_option linter.unusedSimpArgs false
noncomputable section
noncomputable def zoc : Code := Tryz.f40.body.getD .skip
def zpw : List (List Nat) := [[0, 1], [0, 1, 10], [4], [0, 1, 12, 13], [0, 1, 12, 13, 14], [0, 1, 5, 12, 13], [0, 1, 12, 13, 24], [4], [0, 1, 12, 13], [4]]
noncomputable def zpx : EnvT := ⟨Tryz.prog, zdm []⟩
theorem zpy : (zpx).Ok := zan trivial
def z3 (x0 : (List Power)) (x1 : (List Power)) (x2 : Int) (x3 : Int) : Tr (((List Power) × (List Power) × Int × Int) ⊕ ((Bool) ⊕ (Unit))) :=
 (.ite (decide (x3 < x2))
  (.guard ((0 : Int) ≤ x3 ∧ x3 < ((Sl.len (.powers x0) : Nat) : Int))
  (.guard ((0 : Int) ≤ x3 ∧ x3 < ((Sl.len (.powers x1) : Nat) : Int))
  (.ite (!((((x0.getD x3.toNat default).V) == ((x1.getD x3.toNat default).V)) && ((((x0.getD x3.toNat default).N) == ((x1.getD x3.toNat default).N)) && true)))
   (.leaf (.inr (.inl false)))
   (.leaf (.inl (x0, x1, x2, IntKind.i64.wrap (x3 + 1)))))))
  (.leaf (.inr (.inr ()))))
def zbv (x0 : (List Power)) (x1 : (List Power)) (x2 : Int) (x3 : Int) : Option ((Bool) ⊕ (Unit)) := zev (fun s : (List Power) × (List Power) × Int × Int => (z3 s.1 s.2.1 s.2.2.1 s.2.2.2).run) (x0, x1, x2, x3)
def zpz : Ann := ⟨[], [], [], zpw, []⟩
def zp0 : EndD ((List Power) × (List Power) × Int × Int) := ⟨(LQ.seq (Par.q zda) (LQ.seq (Par.q zda) (LQ.seq (Par.q intP) (Par.q intP)))), ⟨[0, 1, 12, 13], [.pub 0, .nilsl 0 (.powers []), .pub 1, .nilsl 1 (.powers [])]⟩, []⟩
def zmu : EndD (Bool) := ⟨(Par.q boolP), ⟨[4], []⟩, []⟩
def zmv : EndD (Unit) := ⟨LQ.nil, ⟨[], []⟩, []⟩
def znp : St → Option LR := L2 26 2 0 zp0 .ret zmu (.exit 0) zmv (fun s => z3 s.1 s.2.1 s.2.2.1 s.2.2.2)
theorem zp1 : zbs (zpx).env 0 (sub zoc [0, 1, 0, 1, 1]) znp :=
 zib (A := zpz) zpy Facts.mix trivial (k := zia (sub zoc [0, 1, 0, 1, 1])) (by kernel_rfl) rfl rfl (by rintro ⟨x0, x1, x2, x3⟩; kernel_rfl)
def zru : Ann := ⟨[([0, 1, 0, 1, 1], znp)], [], [], zpw, []⟩
def zaw (a0 : (List Power)) (a1 : (List Power)) : Tr (Bool) :=
 (.ite (((a0.length : Nat) : Int) != ((a1.length : Nat) : Int))
  (.leaf false)
  (.two (zbv a0 a1 ((a0.length : Nat) : Int) 0) (fun v1 =>
   (.leaf v1)) (fun v2 =>
   (.leaf true))))
def zf (a0 : (List Power)) (a1 : (List Power)) : Option (Bool) := (zaw a0 a1).run
def zp2 : LQ ((List Power) × (List Power)) := (LQ.seq (Par.q zda) (Par.q zda))
def zcp : LQ (Bool) := (Par.q boolP)
def zax : SpecT := zej 0 zp2 2 [] (fun s => zaw s.1 s.2) default zcp 1 []
theorem zbg : zbd Tryz.prog 40 (zax).spec :=
 zav (A := zru) zpy Facts.mix Tryz.func40 (c := zoc) (by kernel_rfl) (Lc := 0) ⟨zp1, trivial⟩ zp2 2 2 [] (fun s => zaw s.1 s.2) default zcp 1 [] [] (by decide) (by kernel_rfl) (by rfl) (by decide) (by decide) (by rfl)
  (by rintro ⟨a0, a1⟩; kernel_rfl)
noncomputable def zrv : Code := Tryz.f43.body.getD .skip
def zrw : List (List Nat) := [[2, 3], [4]]
noncomputable def zrx : EnvT := ⟨Tryz.prog, zdm [(40, zax), (41, zaq)]⟩
theorem zry : (zrx).Ok := zan ⟨zbg, za9, trivial⟩
def zrz : Ann := ⟨[], [], [], zrw, []⟩
def zay (a0 : Packet) (a1 : Packet) : Tr (Bool) :=
 (.guard ((((((a0.Kind == a1.Kind) && (a0.Id == a1.Id)) && (a0.V == a1.V)) && (a0.N == a1.N)) = true → ((zf a0.Set a1.Set).isSome = true) ∧ True))
 (.guard (((((((a0.Kind == a1.Kind) && (a0.Id == a1.Id)) && (a0.V == a1.V)) && (a0.N == a1.N)) && ((zf a0.Set a1.Set).getD default)) = true → ((zp a0.Done a1.Done).isSome = true) ∧ True))
 (.leaf ((((((a0.Kind == a1.Kind) && (a0.Id == a1.Id)) && (a0.V == a1.V)) && (a0.N == a1.N)) && ((zf a0.Set a1.Set).getD default)) && ((zp a0.Done a1.Done).getD default)))))
def z2 (a0 : Packet) (a1 : Packet) : Option (Bool) := (zay a0 a1).run
def zp3 : LQ (Packet × Packet) := (LQ.seq (Par.q (Par.ofLP zlv)) (Par.q (Par.ofLP zlv)))
def zcq : LQ (Bool) := (Par.q boolP)
def zbt : SpecT := zej 0 zp3 2 [] (fun s => zay s.1 s.2) default zcq 1 []
theorem zcr : zbd Tryz.prog 43 (zbt).spec :=
 zav (A := zrz) zry Facts.mix Tryz.func43 (c := zrv) (by kernel_rfl) (Lc := 0) trivial zp3 2 4 [] (fun s => zay s.1 s.2) default zcq 1 [] [] (by decide) (by kernel_rfl) (by rfl) (by decide) (by decide) (by rfl)
  (by rintro ⟨a0, a1⟩; kernel_rfl)
end
