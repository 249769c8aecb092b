/-
  Loops over places from 0 up to n, in plain words.
-/
import Derived.Test.YtfmcmcbckhmfaaaAbPlain
namespace Go.Proofs.Ytfmcmcbckhmfaaa.Ab
open Go Go.RowKit
set_option linter.unusedSimpArgs false
set_option linter.unusedVariables false

/-- A loop over places: what it gives is related to where it began. -/
theorem iter_upto {σ ρ τ : Type} {F : σ → Option (σ ⊕ ρ)} (n : Nat) (mk : Nat → τ → σ) (I : Nat → τ → Prop) (R : Nat → τ → ρ → Prop)
    (hend : ∀ t, I n t → ∃ r, F (mk n t) = some (.inr r) ∧ R n t r)
    (hstep : ∀ i t, i < n → I i t → (∃ t', F (mk i t) = some (.inl (mk (i + 1) t')) ∧ I (i + 1) t' ∧ ∀ r, R (i + 1) t' r → R i t r) ∨ ∃ r, F (mk i t) = some (.inr r) ∧ R i t r) :
    ∀ i t, i ≤ n → I i t → ∃ r, iter F (mk i t) = some r ∧ R i t r := by
  have key : ∀ k i t, n - i < k → i ≤ n → I i t → ∃ r, iter F (mk i t) = some r ∧ R i t r := by
    intro k
    induction k with
    | zero => intro i t h; omega
    | succ k ih =>
      intro i t hk hi hI
      rw [iter_eq]
      by_cases h : i < n
      · rcases hstep i t h hI with ⟨t', h1, h2, h3⟩ | ⟨r, h1, h2⟩
        · rw [h1]
          obtain ⟨r, k1, k2⟩ := ih (i + 1) t' (by omega) (by omega) h2
          exact ⟨r, k1, h3 r k2⟩
        · rw [h1]; exact ⟨r, rfl, h2⟩
      · obtain rfl : i = n := by omega
        obtain ⟨r, h1, h2⟩ := hend t hI
        rw [h1]; exact ⟨r, rfl, h2⟩
  exact fun i t => key _ i t (Nat.lt_succ_self _)

/-- A loop over places: what it gives is a function of where it began. -/
theorem iter_uptof {σ ρ τ : Type} {F : σ → Option (σ ⊕ ρ)} (n : Nat) (mk : Nat → τ → σ) (I : Nat → τ → Prop) (g : Nat → τ → ρ)
    (hend : ∀ t, I n t → F (mk n t) = some (.inr (g n t)))
    (hstep : ∀ i t, i < n → I i t → (∃ t', F (mk i t) = some (.inl (mk (i + 1) t')) ∧ I (i + 1) t' ∧ g (i + 1) t' = g i t) ∨ F (mk i t) = some (.inr (g i t))) :
    ∀ i t, i ≤ n → I i t → iter F (mk i t) = some (g i t) := by
  intro i t hi hI
  obtain ⟨r, h1, h2⟩ := iter_upto n mk I (fun i t r => r = g i t) (fun t h => ⟨_, hend t h, rfl⟩)
    (fun i t h hI => (hstep i t h hI).imp (fun ⟨t', h1, h2, h3⟩ => ⟨t', h1, h2, fun r hr => hr.trans h3⟩) (fun h => ⟨_, h, rfl⟩)) i t hi hI
  rw [h1, h2]

theorem i64_nat {i : Nat} (h : i + 1 ≤ 9223372036854775807) : IntKind.i64.wrap ((i : Int) + 1) = ((i + 1 : Nat) : Int) := by
  rw [i64_in (by omega) (by omega)]; omega

namespace Tr
variable {α β γ : Type}
theorem run_guard_some {o : Option β} {v : β} {t : Tr α} (h : o = some v) : (guard (o.isSome = true) t).run = t.run := run_guard (by rw [h]; rfl)
end Tr

theorem sl_len_powers (l : List Power) : Sl.len (.powers l) = l.length := rfl
theorem sl_len_ints (l : List Int) : Sl.len (.ints l) = l.length := rfl
theorem sl_len_bytes (l : List UInt8) : Sl.len (.bytes l) = l.length := rfl

end Go.Proofs.Ytfmcmcbckhmfaaa.Ab
