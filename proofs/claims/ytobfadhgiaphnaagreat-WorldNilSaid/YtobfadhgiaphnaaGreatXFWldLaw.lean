/-
  The functions, each by its tree.
-/
import Derived.Test.YtobfadhgiaphnaaGreatXAbClear
import Derived.Test.YtobfadhgiaphnaaGreatXAbFun
import Derived.Test.YtobfadhgiaphnaaGreatXAbInsert
import Derived.Test.YtobfadhgiaphnaaGreatXAbRo
import Derived.Test.YtobfadhgiaphnaaGreatXAbStructs
import Derived.Test.YtobfadhgiaphnaaGreatChecked
import Derived.Deep.QuietTactic
import Derived.Ground.GgsProg
import Derived.Ground.GgtProg
import Derived.Shelf.GgSortFunc.SmallK
import Derived.Shelf.GgSortMore.Stable
import Derived.Shelf.Lay
import Derived.Sort.OwnSortedInts
import Derived.Test.YtobfadhgiaphnaaGreatXFCodec
import Derived.Test.YtobfadhgiaphnaaGreatXFLine
import Derived.Test.YtobfadhgiaphnaaGreatXFRefA
import Derived.Test.YtobfadhgiaphnaaGreatXFRefC
import Derived.Test.YtobfadhgiaphnaaGreatXFRefP
import Derived.Test.YtobfadhgiaphnaaGreatXFWld
import Derived.Test.YtobfadhgiaphnaaGreatXFacts
namespace Go.Proofs.YtobfadhgiaphnaaGreat.Ab
open Go Go.RowKit
set_option maxRecDepth 100000
set_option linter.unusedVariables false
set_option linter.unusedSimpArgs false
noncomputable section
noncomputable def zsn : Code := Tryz.f4.body.getD .skip
def zso : List (List Nat) := [[1, 2], [1, 2, 5], [4]]
noncomputable def zsp : EnvT := ⟨Tryz.prog, zdm [(9, zbw), (10, zbb), (12, zas), (11, zci), (14, zat), (13, zch)]⟩
theorem zsq : (zsp).Ok := zan ⟨zdg, zcs, zb8, zd7, zb9, zd6, trivial⟩
def zsr : Ann := ⟨[], [], [], zso, []⟩
def zbk (a0 : Deed) (a1 : Int) : Tr (Bool) :=
 (.bind (zaj a0) fun v1 =>
 (.guard ((((v1.Code == 4) && ((v1.N == 0) && true)) = true → ((zi).isSome = true) ∧ True))
 (.guard (((((v1.Code == 4) && ((v1.N == 0) && true)) && (((zi).getD default) == 0)) = true → ((zh).isSome = true) ∧ True))
 (.guard (((((v1.Code == 4) && ((v1.N == 0) && true)) && (((zi).getD default) == 0)) = true → ((zq ((zh).getD default) (default : za)).isSome = true) ∧ True))
 (.guard ((((((v1.Code == 4) && ((v1.N == 0) && true)) && (((zi).getD default) == 0)) && ((zq ((zh).getD default) (default : za)).getD default)) = true → ((zo a1).isSome = true) ∧ True))
 (.guard ((((((v1.Code == 4) && ((v1.N == 0) && true)) && (((zi).getD default) == 0)) && ((zq ((zh).getD default) (default : za)).getD default)) = true → ((z4 ((zo a1).getD default) (default : ze)).isSome = true) ∧ True))
 (.leaf (((((v1.Code == 4) && ((v1.N == 0) && true)) && (((zi).getD default) == 0)) && ((zq ((zh).getD default) (default : za)).getD default)) && ((z4 ((zo a1).getD default) (default : ze)).getD default)))))))))
def zbc (a0 : Deed) (a1 : Int) : Option (Bool) := (zbk a0 a1).run
def zqt : LQ (Deed × Int) := (LQ.seq (Par.q (Par.ofLP deedL)) (Par.q intP))
def qr_law_WorldNil : LQ (Bool) := (Par.q boolP)
def zgg : SpecT := zej 0 zqt 2 [] (fun s => zbk s.1 s.2) default qr_law_WorldNil 1 []
theorem zf0 : zbd Tryz.prog 4 (zgg).spec :=
 zav (A := zsr) zsq Facts.mix Tryz.func4 (c := zsn) (by kernel_rfl) (Lc := 0) trivial zqt 2 3 [] (fun s => zbk s.1 s.2) default qr_law_WorldNil 1 [] [] (by decide) (by kernel_rfl) (by rfl) (by decide) (by decide) (by rfl)
  (by rintro ⟨a0, a1⟩; kernel_rfl)
end
