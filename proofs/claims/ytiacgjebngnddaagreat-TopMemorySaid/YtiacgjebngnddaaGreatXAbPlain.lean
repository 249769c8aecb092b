/-
  The walk over abstract states.
-/
import Derived.Test.YtiacgjebngnddaaGreatXAbC
namespace Go.Proofs.YtiacgjebngnddaaGreat.Ab
open Go Go.RowKit
set_option linter.unusedSimpArgs false
set_option linter.unusedVariables false
namespace Tr
variable {α β γ:Type}
theorem rl (x:α):(leaf x).run=some x:=by simp only[run]
theorem rg {p:Prop} {t:Tr α} (h:p):(guard p t).run=t.run:=by rw[run];exact if_pos h
theorem rt {b:Bool} {t e:Tr α} (h:b=true):(ite b t e).run=t.run:=by rw[run,h];rfl
theorem rf {b:Bool} {t e:Tr α} (h:b=false):(ite b t e).run=e.run:=by rw[run,h];rfl
theorem run_ite (b:Bool) (t e:Tr α):(ite b t e).run=if b=true then t.run else e.run:=by rw[run];cases b<;>rfl
theorem rb {o:Option β} {f:β→Tr α} {v:β} (h:o=some v):(bind o f).run=(f v).run:=by rw[run,h];rfl
theorem ri {o:Option (β⊕γ)} {f:β→Tr α} {g:γ→Tr α} {v:β} (h:o=some (.inl v)):(two o f g).run=(f v).run:=by rw[run,h];rfl
theorem rj {o:Option (β⊕γ)} {f:β→Tr α} {g:γ→Tr α} {v:γ} (h:o=some (.inr v)):(two o f g).run=(g v).run:=by rw[run,h];rfl
theorem run_split {p q:Prop} {t e:Tr α} {r:α} (h1:p→t.run=some r) (h2:q→e.run=some r) (h:p∨q):(split p q t e).run=some r:=by
 rw[run]
 by_cases hp:p
 ·rw[if_pos hp]
  by_cases hq:q
  ·rw[if_pos hq,h1 hp,h2 hq,if_pos rfl]
  ·rw[if_neg hq,h1 hp]
 ·rw[if_neg hp,h2 (h.resolve_left hp)]
end Tr
theorem z6z {σ ρ:Type} {F:σ→Option (σ⊕ρ)} (I:σ→Prop) (m:σ→Nat) (g:σ→ρ)
  (h:∀ s,I s→(∃ s',F s=some (.inl s')∧I s'∧m s' < m s∧g s'=g s)∨F s=some (.inr (g s))):∀ s,I s→zcv F s=some (g s):=by
 have key:∀ n s,m s < n→I s→zcv F s=some (g s):=by
  intro n
  induction n with
  | zero=>intro s hs _;omega
  | succ n ih =>
   intro s hs hI
   rw[zr3]
   rcases h s hI with ⟨s',h1,h2,h3,h4⟩ | h1
   ·rw[h1];simp only[];rw[ih s' (by omega) h2,h4]
   ·rw[h1]
 exact fun s hI=>key _ s (Nat.lt_succ_self _) hI
theorem zr7 {σ ρ:Type} {F:σ→Option (σ⊕ρ)} (I:σ→Prop) (m:σ→Nat) (R:σ→ρ→Prop)
  (h:∀ s,I s→(∃ s',F s=some (.inl s')∧I s'∧m s' < m s∧∀ r,R s' r→R s r)∨∃ r,F s=some (.inr r)∧R s r):∀ s,I s→∃ r,zcv F s=some r∧R s r:=by
 have key:∀ n s,m s < n→I s→∃ r,zcv F s=some r∧R s r:=by
  intro n
  induction n with
  | zero=>intro s hs _;omega
  | succ n ih =>
   intro s hs hI
   rw[zr3]
   rcases h s hI with ⟨s',h1,h2,h3,h4⟩ | ⟨r,h1,h2⟩
   ·rw[h1];simp only[]
    obtain ⟨r,k1,k2⟩:=ih s' (by omega) h2
    exact ⟨r,k1,h4 r k2⟩
   ·rw[h1];exact ⟨r,rfl,h2⟩
 exact fun s hI=>key _ s (Nat.lt_succ_self _) hI
theorem zm {x:Int} (h0 : -9223372036854775808≤x) (h:x≤9223372036854775807):IntKind.i64.wrap x=x:=by
 rw[IntKind.wrap_i64];omega
