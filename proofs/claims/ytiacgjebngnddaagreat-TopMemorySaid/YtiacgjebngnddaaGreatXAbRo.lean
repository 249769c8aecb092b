/-
  The walk over abstract states.
-/
import Derived.Test.YtiacgjebngnddaaGreatXAbC
namespace Go.Proofs.YtiacgjebngnddaaGreat.Ab
open Go Go.RowKit
set_option linter.unusedSimpArgs false
set_option linter.unusedVariables false
def LQ.kint (n:Int):LQ Unit where
 P l:=match l with
  | .val (.int .i64 m)::r=>if m=n then some ((),r) else none
  | _=>none
 e _:=[.val (.int .i64 n)]
 ok l a r h:=by
  split at h
  ·split at h
   ·rename_i hm
    simp only[yy1,Prod.mk.injEq] at h
    rw[← h.2,hm]
    exact ⟨[.val (.int .i64 n)],rfl,.cons .refl .nil⟩
   ·cases h
  ·cases h
