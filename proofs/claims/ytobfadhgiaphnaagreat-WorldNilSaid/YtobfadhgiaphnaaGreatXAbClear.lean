/-
  The walk over abstract states.
-/
import Derived.Test.YtobfadhgiaphnaaGreatXAbFun
namespace Go.Proofs.YtobfadhgiaphnaaGreat.Ab
open Go Go.RowKit
set_option linter.unusedVariables false
set_option linter.unusedSimpArgs false
def zor (l : List Asked) (i : Int) : Option (List Asked) := if 0 ≤ i ∧ i ≤ l.length then some (l.take i.toNat ++ List.replicate (l.length - i.toNat) default) else none
def clearL (a c d0 d1 d2 : Nat) (st : St) : Option LR :=
 match Nat.blt d0 st.n && (Nat.blt d1 st.n && Nat.blt d2 st.n) with
 | true => match st.slot a, st.slot c with
  | .own j, .val (.int .i64 i) => match st.blks.getD j .dead with
   | .rows F (.asked l) => some (.one (zor l i) (fun r => (.normal, ⟨st.n, st.sl.filter (fun p => !(Nat.beq p.1 d0 || (Nat.beq p.1 d1 || Nat.beq p.1 d2))), st.blks.set j (.rows F (.asked r))⟩)))
   | _ => none
  | _, _ => none
 | false => none
