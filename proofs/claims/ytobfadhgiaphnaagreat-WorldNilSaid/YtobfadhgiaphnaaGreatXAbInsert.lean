/-
  The walk over abstract states.
-/
import Derived.Test.YtobfadhgiaphnaaGreatXAbFun
import Derived.Test.YtobfadhgiaphnaaGreatChecked
import Derived.Deep.QuietTactic
import Derived.Ground.Names2Prog
import Derived.Lib.LazyBuf
import Derived.Shelf.Lay
import Derived.Shelf.Spec.SlicesInsertGrow
namespace Go.Proofs
open Go.Shelf Go.RowKit Go.Lib
set_option linter.unusedVariables false
set_option linter.unusedSimpArgs false
shelf_lay Lays2.n21 Nm2 21 at Tryz as Tryz.laysInsert
namespace YtobfadhgiaphnaaGreat.Ab
theorem grownBy_alloc (w : World) (o : Obj) (r : Option Nat) : w.grownBy (w.alloc o) r :=
 ⟨rfl, rfl, rfl, by show _ ≤ (w.heap.push o).size; rw [Array.size_push]; omega, fun k hk _ => by show (w.heap.push o)[k]? = _; rw [Array.getElem?_push, if_neg (by omega)]⟩
end YtobfadhgiaphnaaGreat.Ab
end Go.Proofs
