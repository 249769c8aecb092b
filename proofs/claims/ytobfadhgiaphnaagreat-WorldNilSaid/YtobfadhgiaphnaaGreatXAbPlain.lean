/-
  The walk over abstract states.
-/
import Derived.Test.YtobfadhgiaphnaaGreatXAbFun
import Derived.Test.YtobfadhgiaphnaaGreatXAbStructs
namespace Go.Proofs.YtobfadhgiaphnaaGreat.Ab
open Go Go.RowKit
set_option linter.unusedSimpArgs false
set_option linter.unusedVariables false
namespace Tr
variable {α β γ : Type}
theorem rl (x : α) : (leaf x).run = some x := by simp only [run]
theorem rg {p : Prop} {t : Tr α} (h : p) : (guard p t).run = t.run := by rw [run]; exact if_pos h
theorem rt {b : Bool} {t e : Tr α} (h : b = true) : (ite b t e).run = t.run := by rw [run, h]; rfl
theorem rf {b : Bool} {t e : Tr α} (h : b = false) : (ite b t e).run = e.run := by rw [run, h]; rfl
theorem run_ite (b : Bool) (t e : Tr α) : (ite b t e).run = if b = true then t.run else e.run := by rw [run]; cases b <;> rfl
theorem rb {o : Option β} {f : β → Tr α} {v : β} (h : o = some v) : (bind o f).run = (f v).run := by rw [run, h]; rfl
theorem ri {o : Option (β ⊕ γ)} {f : β → Tr α} {g : γ → Tr α} {v : β} (h : o = some (.inl v)) : (two o f g).run = (f v).run := by rw [run, h]; rfl
theorem rj {o : Option (β ⊕ γ)} {f : β → Tr α} {g : γ → Tr α} {v : γ} (h : o = some (.inr v)) : (two o f g).run = (g v).run := by rw [run, h]; rfl
end Tr
theorem zjl {σ ρ : Type} {F : σ → Option (σ ⊕ ρ)} (I : σ → Prop) (m : σ → Nat) (g : σ → ρ)
  (h : ∀ s, I s → (∃ s', F s = some (.inl s') ∧ I s' ∧ m s' < m s ∧ g s' = g s) ∨ F s = some (.inr (g s))) : ∀ s, I s → zev F s = some (g s) := by
 have key : ∀ n s, m s < n → I s → zev F s = some (g s) := by
  intro n
  induction n with
  | zero => intro s hs _; omega
  | succ n ih =>
   intro s hs hI
   rw [zhk]
   rcases h s hI with ⟨s', h1, h2, h3, h4⟩ | h1
   ·rw [h1]; simp only []; rw [ih s' (by omega) h2, h4]
   ·rw [h1]
 exact fun s hI => key _ s (Nat.lt_succ_self _) hI
theorem zkv {x : Int} (h0 : -9223372036854775808 ≤ x) (h : x ≤ 9223372036854775807) : IntKind.i64.wrap x = x := by
 rw [IntKind.wrap_i64]; omega
