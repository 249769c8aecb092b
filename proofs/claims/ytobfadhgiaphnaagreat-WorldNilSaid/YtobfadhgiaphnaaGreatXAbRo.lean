/-
  The walk over abstract states.
-/
import Derived.Test.YtobfadhgiaphnaaGreatXAbFun
import Derived.Test.YtobfadhgiaphnaaGreatXAbStructs
namespace Go.Proofs.YtobfadhgiaphnaaGreat.Ab
open Go Go.RowKit
set_option linter.unusedSimpArgs false
set_option linter.unusedVariables false
def LQ.nilp : LQ Unit where
 P l := match l with
  | .val (.pointer none) :: r => some ((), r)
  | _ => none
 e _ := [.val (.pointer none)]
 ok l a r h := by
  split at h
  ·simp only [Option.some.injEq, Prod.mk.injEq] at h
   rw [← h.2]
   exact ⟨[.val (.pointer none)], rfl, .cons .refl .nil⟩
  ·cases h
