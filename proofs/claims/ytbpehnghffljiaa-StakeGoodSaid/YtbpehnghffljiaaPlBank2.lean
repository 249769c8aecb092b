/-
  The laws of banks: what moves keeps all that there is.
-/
import Derived.Test.YtbpehnghffljiaaFBank
import Derived.Test.YtbpehnghffljiaaPlBank
namespace Go.Proofs.Ytbpehnghffljiaa.Ab
open Go Go.RowKit
set_option linter.unusedVariables false
set_option linter.unusedSimpArgs false

theorem moveB_bad {b : Bank} {f t n : Int} (h : (moveB b f t n).2 ≠ 0) : (moveB b f t n).1 = b := by
  unfold moveB at h ⊢
  split
  · rfl
  · split
    · rfl
    · rename_i h1 h2
      rw [if_neg h1, if_neg h2] at h
      exact absurd rfl h

theorem moveB_ok {b : Bank} {f t n : Int} (h : (moveB b f t n).2 = 0) : GoodB b ∧ 0 ≤ n ∧ n ≤ 1125899906842624 ∧ n ≤ (plA b).get f ∧ moveB b f t n = (movedB b f t n, 0) := by
  unfold moveB at h ⊢
  by_cases h1 : GoodB b ∧ 0 ≤ n ∧ n ≤ 1125899906842624
  · rw [if_neg (by simpa using h1)] at h ⊢
    by_cases h2 : (plA b).get f < n
    · rw [if_pos h2] at h; cases h
    · rw [if_neg h2]
      exact ⟨h1.1, h1.2.1, h1.2.2, by omega, rfl⟩
  · rw [if_pos h1] at h; cases h

def road (f t : Int) : Prop := ((f = 0 ∨ f = 1 ∨ f = 2 ∨ f = 3) ∧ t = 4) ∨ (f = 4 ∧ t = 5) ∨ (f = 5 ∧ (t = 0 ∨ t = 1 ∨ t = 2 ∨ t = 3)) ∨ (f = 4 ∧ t = 6) ∨ (f = 5 ∧ t = 6)

theorem movedB_good {b : Bank} {f t n : Int} (hr : road f t) (hg : GoodB b) (h0 : 0 ≤ n) (h1 : n ≤ (plA b).get f) : GoodB (movedB b f t n) ∧ b.Burnt ≤ (movedB b f t n).Burnt := by
  obtain ⟨a0, a1, a2, a3, a4, a5, a6, a7⟩ := hg
  unfold okN at a0 a1 a2 a3 a4 a5 a6
  unfold totB at a7
  unfold road at hr
  rcases hr with ⟨rfl | rfl | rfl | rfl, rfl⟩ | ⟨rfl, rfl⟩ | ⟨rfl, rfl | rfl | rfl | rfl⟩ | ⟨rfl, rfl⟩ | ⟨rfl, rfl⟩
  all_goals
    simp [plA, A7.get] at h1
    simp [GoodB, okN, totB, movedB, bkA, plA, A7.get, A7.set]
    omega

/-- What a move gives: nothing has changed, or all is kept. -/
def kept (b : Bank) (v : Bank × Int) : Prop := (v.2 ≠ 0 ∧ v.1 = b) ∨ (v.2 = 0 ∧ GoodB b ∧ GoodB v.1 ∧ b.Burnt ≤ v.1.Burnt)

theorem kept_move {b : Bank} {f t n : Int} (hr : road f t) : kept b (moveB b f t n) := by
  by_cases h : (moveB b f t n).2 = 0
  · obtain ⟨h1, h2, h3, h4, h5⟩ := moveB_ok h
    obtain ⟨k1, k2⟩ := movedB_good hr h1 h2 h4
    rw [h5]
    exact .inr ⟨rfl, h1, k1, k2⟩
  · exact .inl ⟨h, moveB_bad h⟩

theorem kept_bond {b : Bank} {d n : Int} : kept b (bondB b d n) := by
  unfold bondB
  split
  · exact .inl ⟨by simp, rfl⟩
  · exact kept_move (.inl ⟨by omega, rfl⟩)

theorem kept_pay {b : Bank} {d n : Int} : kept b (payB b d n) := by
  unfold payB
  split
  · exact .inl ⟨by simp, rfl⟩
  · exact kept_move (.inr (.inr (.inl ⟨rfl, by omega⟩)))

theorem kept_burn {b : Bank} {x y : Int} : kept b (burnB b x y) := by
  have k1 : kept b (moveB b 4 6 x) := kept_move (.inr (.inr (.inr (.inl ⟨rfl, rfl⟩))))
  have k2 : kept (moveB b 4 6 x).1 (moveB (moveB b 4 6 x).1 5 6 y) := kept_move (.inr (.inr (.inr (.inr ⟨rfl, rfl⟩))))
  unfold burnB
  split
  · rename_i h; exact .inl ⟨h, rfl⟩
  · split
    · rename_i h; exact .inl ⟨h, rfl⟩
    · rename_i h1 h2
      rcases k1 with ⟨h, _⟩ | ⟨_, g1, g2, g3⟩
      · exact absurd h h1
      · rcases k2 with ⟨h, _⟩ | ⟨_, g4, g5, g6⟩
        · exact absurd h h2
        · exact .inr ⟨rfl, g1, g5, by simp only; omega⟩

theorem stage {b : Bank} {v : Bank × Int} (k : kept b v) {t1 t2 : Tr Bool} {r : Option Bool} (h1 : t1.run = r) (h2 : t2.run = r) :
    (Tr.ite (v.2 != 0)
      (.ite (!(((v.1.Free.x0 == b.Free.x0) && ((v.1.Free.x1 == b.Free.x1) && ((v.1.Free.x2 == b.Free.x2) && ((v.1.Free.x3 == b.Free.x3) && true)))) && ((v.1.Bonded == b.Bonded) && ((v.1.Waiting == b.Waiting) && ((v.1.Burnt == b.Burnt) && true)))))
        (.leaf false) t1)
      (.guard ((sh_bank_Good b).isSome = true)
      (.guard (((!((sh_bank_Good b).getD default)) = false → ((sh_bank_Good v.1).isSome = true) ∧ True))
      (.guard ((((!((sh_bank_Good b).getD default)) || (!((sh_bank_Good v.1).getD default))) = false → ((sh_bank_Sum v.1).isSome = true) ∧ True))
      (.guard ((((!((sh_bank_Good b).getD default)) || (!((sh_bank_Good v.1).getD default))) = false → ((sh_bank_Sum b).isSome = true) ∧ True))
      (.ite ((((!((sh_bank_Good b).getD default)) || (!((sh_bank_Good v.1).getD default))) || (((sh_bank_Sum v.1).getD default) != ((sh_bank_Sum b).getD default))) || (decide (v.1.Burnt < b.Burnt)))
        (.leaf false) t2)))))).run = r := by
  rcases k with ⟨e, hv⟩ | ⟨e, g1, g2, g3⟩
  · rw [Tr.run_true (by simpa using e), hv, Tr.run_false (by simp), h1]
  · have t1 : totB b = 400000 := g1.2.2.2.2.2.2.2
    have t2 : totB v.1 = 400000 := g2.2.2.2.2.2.2.2
    rw [Tr.run_false (by simpa using e)]
    simp only [pl_bankGood, pl_bankSum, Option.isSome_some, Option.getD_some, t1, t2]
    rw [Tr.run_guard (by trivial), Tr.run_guard (by simp), Tr.run_guard (by simp), Tr.run_guard (by simp), Tr.run_false (by simp [g1, g2]; omega), h2]

theorem moveB_eq {b : Bank} {f t n : Int} (h1 : GoodB b) (h2 : 0 ≤ n) (h3 : n ≤ 1125899906842624) (h4 : n ≤ (plA b).get f) : moveB b f t n = (movedB b f t n, 0) := by
  unfold moveB
  rw [if_neg (by simp; exact ⟨h1, h2, h3⟩), if_neg (by omega)]

theorem round {b : Bank} {d n : Int} (hd : 0 ≤ d ∧ d ≤ 3) (h : (moveB b d 4 n).2 = 0) :
    moveB (moveB b d 4 n).1 4 5 n = (movedB (movedB b d 4 n) 4 5 n, 0) ∧ moveB (movedB (movedB b d 4 n) 4 5 n) 5 d n = (b, 0) := by
  obtain ⟨h1, h2, h3, h4, h5⟩ := moveB_ok h
  have g1 := (movedB_good (t := 4) (.inl ⟨by omega, rfl⟩) h1 h2 h4).1
  have p0 : okN b.Bonded := h1.2.2.2.2.1
  have p1 : okN b.Waiting := h1.2.2.2.2.2.1
  unfold okN at p0 p1
  have e1 : n ≤ (plA (movedB b d 4 n)).get 4 := by
    obtain rfl | rfl | rfl | rfl : d = 0 ∨ d = 1 ∨ d = 2 ∨ d = 3 := by omega
    all_goals
      simp [movedB, bkA, plA, A7.get, A7.set]
      omega
  have g2 := (movedB_good (t := 5) (.inr (.inl ⟨rfl, rfl⟩)) g1 h2 e1).1
  have e2 : n ≤ (plA (movedB (movedB b d 4 n) 4 5 n)).get 5 := by
    obtain rfl | rfl | rfl | rfl : d = 0 ∨ d = 1 ∨ d = 2 ∨ d = 3 := by omega
    all_goals
      simp [movedB, bkA, plA, A7.get, A7.set]
      omega
  rw [h5, moveB_eq g1 h2 h3 e1, moveB_eq g2 h2 h3 e2]
  refine ⟨rfl, ?_⟩
  congr 1
  obtain ⟨⟨f0, f1, f2, f3⟩, y4, y5, y6⟩ := b
  obtain rfl | rfl | rfl | rfl : d = 0 ∨ d = 1 ∨ d = 2 ∨ d = 3 := by omega
  all_goals
    simp [movedB, bkA, plA, A7.get, A7.set]
    try omega

end Go.Proofs.Ytbpehnghffljiaa.Ab
