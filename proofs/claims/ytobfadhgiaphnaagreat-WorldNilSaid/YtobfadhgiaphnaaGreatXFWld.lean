/-
  The functions, each by its tree.
-/
import Derived.Test.YtobfadhgiaphnaaGreatXAbClear
import Derived.Test.YtobfadhgiaphnaaGreatXAbFun
import Derived.Test.YtobfadhgiaphnaaGreatXAbInsert
import Derived.Test.YtobfadhgiaphnaaGreatXAbRo
import Derived.Test.YtobfadhgiaphnaaGreatXAbStructs
import Derived.Test.YtobfadhgiaphnaaGreatChecked
import Derived.Deep.QuietTactic
import Derived.Ground.GgsProg
import Derived.Ground.GgtProg
import Derived.Shelf.GgSortFunc.SmallK
import Derived.Shelf.GgSortMore.Stable
import Derived.Shelf.Lay
import Derived.Sort.OwnSortedInts
import Derived.Test.YtobfadhgiaphnaaGreatXFCodec
import Derived.Test.YtobfadhgiaphnaaGreatXFLine
import Derived.Test.YtobfadhgiaphnaaGreatXFacts
namespace Go.Proofs.YtobfadhgiaphnaaGreat.Ab
open Go Go.RowKit
set_option maxRecDepth 100000
set_option linter.unusedVariables false
set_option linter.unusedSimpArgs false
noncomputable section
noncomputable def zr3 : Code := Tryz.f9.body.getD .skip
def zr4 : List (List Nat) := [[0, 3, 4], [0, 3, 4, 7], [4], [0, 3, 4, 11], [4], [0, 3, 4], [0, 3, 4], [0, 3, 4, 6], [0, 3, 4, 6, 30], [4], [0, 3, 4, 6, 30, 34], [0, 4, 5, 6], [0, 3, 4, 6, 30, 47], [0, 4, 5, 6], [0, 3, 4, 6, 30, 64], [0, 4, 5, 6], [0, 3, 4, 6, 30, 75], [0, 4, 5, 6], [0, 3, 4, 30, 86], [0, 3, 4, 100], [4], [0, 4], [4], [0, 3, 4, 116], [4], [0, 4, 5, 6, 121], [4], [4], [4]]
noncomputable def zr5 : EnvT := ⟨Tryz.prog, zdm []⟩
theorem zr6 : (zr5).Ok := zan trivial
def zr7 : Ann := ⟨[], [], [[1, 0, 0, 1]], zr4, []⟩
def z7 (a0 : Deed) : Tr (Reply) :=
 (.leaf (⟨4, 0⟩ : Reply))
def zaj (a0 : Deed) : Option (Reply) := (z7 a0).run
def zqp : LQ (Deed) := (LQ.skip LQ.nilp (Par.q (Par.ofLP deedL)))
def zbq : LQ (Reply) := (Par.q (Par.ofLP zpg))
def zbw : SpecT := zej 0 zqp 2 [] (fun s => z7 s) default zbq 1 []
theorem zdg : zbd Tryz.prog 9 (zbw).spec :=
 zav (A := zr7) zr6 Facts.mix Tryz.func9 (c := zr3) (by kernel_rfl) (Lc := 0) trivial zqp 2 4 [] (fun s => z7 s) default zbq 1 [] [] (by decide) (by kernel_rfl) (by rfl) (by decide) (by decide) (by rfl)
  (by rintro a0; kernel_rfl)
noncomputable def zr8 : Code := Tryz.f10.body.getD .skip
def zr9 : List (List Nat) := [[0], [0, 4], [2], [2]]
noncomputable def zsa : EnvT := ⟨Tryz.prog, zdm []⟩
theorem zsb : (zsa).Ok := zan trivial
def zsc : Ann := ⟨[], [], [[1, 0, 1]], zr9, []⟩
def z0  : Tr (Int) :=
 (.leaf 0)
def zi  : Option (Int) := (z0 ).run
def zqq : LQ (Unit) := LQ.nilp
def za4 : LQ (Int) := (Par.q intP)
def zbb : SpecT := zej 0 zqq 1 [] (fun s => z0 ) default za4 1 []
theorem zcs : zbd Tryz.prog 10 (zbb).spec :=
 zav (A := zsc) zsb Facts.mix Tryz.func10 (c := zr8) (by kernel_rfl) (Lc := 0) trivial zqq 1 2 [] (fun s => z0 ) default za4 1 [] [] (by decide) (by kernel_rfl) (by rfl) (by decide) (by decide) (by rfl)
  (by rintro _; kernel_rfl)
noncomputable def zsd : Code := Tryz.f12.body.getD .skip
def zse : List (List Nat) := [[0, 2], [0, 2, 10], [2], [2, 3], [2, 3], [2, 3], [2, 3, 26], [2, 3, 26, 27], [2, 3, 4, 26], [2, 3, 5, 26], [2, 3, 26], [2, 3, 26], [2, 3, 6], [2, 3, 6, 58, 59, 60], [2, 3, 6, 58, 59, 60, 61], [2, 3, 6, 8, 58, 59, 60], [2, 3, 6, 58, 59, 60], [2, 3, 6, 58, 59, 60], [2, 3], [2]]
noncomputable def zsf : EnvT := ⟨Tryz.prog, zdm []⟩
theorem zsg : (zsf).Ok := zan trivial
def zsh : Ann := ⟨[], [], [[1, 0, 1]], zse, []⟩
def zu  : Tr (za) :=
 (.leaf (default : za))
def zh  : Option (za) := (zu ).run
def zqr : LQ (Unit) := LQ.nilp
def zak : LQ (za) := (Par.q (Par.ofLP za8))
def zas : SpecT := zej 0 zqr 1 [] (fun s => zu ) default zak 1 []
theorem zb8 : zbd Tryz.prog 12 (zas).spec :=
 zav (A := zsh) zsg Facts.mix Tryz.func12 (c := zsd) (by kernel_rfl) (Lc := 0) trivial zqr 1 3 [] (fun s => zu ) default zak 1 [] [.pubB 2] (by decide) (by kernel_rfl) (by rfl) (by decide) (by decide) (by rfl)
  (by rintro _; kernel_rfl)
noncomputable def zsi : Code := Tryz.f14.body.getD .skip
def zsj : List (List Nat) := [[0, 1, 4], [0, 1, 4, 18], [4], [4, 5], [4, 5], [4, 5, 6], [4, 5, 6, 39, 40, 41], [4, 5, 6, 39, 40, 41, 42], [4, 5, 6, 8, 39, 40, 41], [4, 5, 6, 39, 40, 41], [4, 5, 6, 39, 40, 41], [4, 5], [4]]
noncomputable def zsk : EnvT := ⟨Tryz.prog, zdm []⟩
theorem zsl : (zsk).Ok := zan trivial
def zsm : Ann := ⟨[], [], [[1, 0, 1]], zsj, []⟩
def zv (a0 : Int) : Tr (ze) :=
 (.leaf (default : ze))
def zo (a0 : Int) : Option (ze) := (zv a0).run
def zqs : LQ (Int) := (LQ.skip LQ.nilp (Par.q intP))
def zal : LQ (ze) := (Par.q (Par.ofLP za7))
def zat : SpecT := zej 0 zqs 2 [] (fun s => zv s) default zal 1 []
theorem zb9 : zbd Tryz.prog 14 (zat).spec :=
 zav (A := zsm) zsl Facts.mix Tryz.func14 (c := zsi) (by kernel_rfl) (Lc := 0) trivial zqs 2 3 [] (fun s => zv s) default zal 1 [] [.pubB 4] (by decide) (by kernel_rfl) (by rfl) (by decide) (by decide) (by rfl)
  (by rintro a0; kernel_rfl)
end
