/-
  Banks, with no program in sight: what moves, twice told, is the same.
-/
import Derived.Test.YtbpehnghffljiaaPlRLaws
import Derived.Test.YtbpehnghffljiaaFBank
namespace Go.Proofs.Ytbpehnghffljiaa.Ab
open Go Go.RowKit
set_option linter.unusedVariables false
set_option linter.unusedSimpArgs false

theorem drop_stepB {α : Type} {l : List α} {k : Nat} (h : k < l.length) (d : α) : l.drop k = l.getD k d :: l.drop (k + 1) := by
  rw [List.drop_eq_getElem_cons h, List.getD_eq_getElem?_getD, List.getElem?_eq_getElem h]; rfl

def totB (b : Bank) : Int := b.Free.x0 + b.Free.x1 + b.Free.x2 + b.Free.x3 + b.Bonded + b.Waiting + b.Burnt
def okN (x : Int) : Prop := 0 ≤ x ∧ x ≤ 400000
instance (x : Int) : Decidable (okN x) := inferInstanceAs (Decidable (_ ∧ _))
theorem out_false {x : Int} (h : okN x) : (decide (x < 0) || decide (x > 400000)) = false := by unfold okN at h; simp; omega
theorem out_true {x : Int} (h : ¬ okN x) : (decide (x < 0) || decide (x > 400000)) = true := by unfold okN at h; simp; omega
def GoodB (b : Bank) : Prop := okN b.Free.x0 ∧ okN b.Free.x1 ∧ okN b.Free.x2 ∧ okN b.Free.x3 ∧ okN b.Bonded ∧ okN b.Waiting ∧ okN b.Burnt ∧ totB b = 400000
instance (b : Bank) : Decidable (GoodB b) := inferInstanceAs (Decidable (_ ∧ _))

def plA (b : Bank) : A7 Int := ⟨b.Free.x0, b.Free.x1, b.Free.x2, b.Free.x3, b.Bonded, b.Waiting, b.Burnt⟩
def bkA (a : A7 Int) : Bank := ⟨⟨a.x0, a.x1, a.x2, a.x3⟩, a.x4, a.x5, a.x6⟩

theorem pl_bankSum (b : Bank) : sh_bank_Sum b = some (IntKind.i64.wrap (totB b)) := by
  have key : ∀ x : Int, sh_bank_Sum_l1 x b.Free 0 = some (IntKind.i64.wrap (IntKind.i64.wrap (IntKind.i64.wrap (IntKind.i64.wrap (x + b.Free.x0) + b.Free.x1) + b.Free.x2) + b.Free.x3)) := by
    intro x
    rw [sh_bank_Sum_l1]
    refine (iter_inl' (s' := (IntKind.i64.wrap (x + b.Free.x0), b.Free, 1)) ?_).trans ((iter_inl' (s' := (IntKind.i64.wrap (IntKind.i64.wrap (x + b.Free.x0) + b.Free.x1), b.Free, 2)) ?_).trans ((iter_inl' (s' := (IntKind.i64.wrap (IntKind.i64.wrap (IntKind.i64.wrap (x + b.Free.x0) + b.Free.x1) + b.Free.x2), b.Free, 3)) ?_).trans ((iter_inl' (s' := (IntKind.i64.wrap (IntKind.i64.wrap (IntKind.i64.wrap (IntKind.i64.wrap (x + b.Free.x0) + b.Free.x1) + b.Free.x2) + b.Free.x3), b.Free, 4)) ?_).trans (iter_inr' ?_))))
    · simp only [T_bank_Sum_l1]; rw [Tr.run_true (by rfl), Tr.run_guard (by omega), Tr.run_leaf]; rfl
    · simp only [T_bank_Sum_l1]; rw [Tr.run_true (by rfl), Tr.run_guard (by omega), Tr.run_leaf]; rfl
    · simp only [T_bank_Sum_l1]; rw [Tr.run_true (by rfl), Tr.run_guard (by omega), Tr.run_leaf]; rfl
    · simp only [T_bank_Sum_l1]; rw [Tr.run_true (by rfl), Tr.run_guard (by omega), Tr.run_leaf]; rfl
    · simp only [T_bank_Sum_l1]; rw [Tr.run_false (by rfl), Tr.run_leaf]
  rw [sh_bank_Sum, T_bank_Sum, Tr.run_bind (key _), Tr.run_leaf]
  congr 1
  simp only [IntKind.wrap_i64, totB]
  omega

theorem pl_bankGood (b : Bank) : sh_bank_Good b = some (decide (GoodB b)) := by
  rw [sh_bank_Good, T_bank_Good]
  obtain ⟨l, hl⟩ : ∃ l, l = [b.Free.x0, b.Free.x1, b.Free.x2, b.Free.x3] ++ [b.Bonded, b.Waiting, b.Burnt] := ⟨_, rfl⟩
  have hlen : l.length = 7 := by rw [hl]; rfl
  rw [Tr.run_guard (by show (4 + 3) * 8 ≤ _; omega), Tr.run_guard (by show 0 < 3; omega), ← hl]
  obtain ⟨r, h1, h2⟩ := iter_upto (F := fun s : Int × Int × Bank × (List Int) => (T_bank_Good_l1 s.1 s.2.1 s.2.2.1 s.2.2.2).run) l.length
    (fun i (_ : Unit) => ((l.length : Int), (i : Int), b, l)) (fun i _ => True) (fun i _ r => match r with | .inl x => x = false ∧ ¬ (∀ y, y ∈ l.drop i → okN y) | .inr x => x = b ∧ ∀ y, y ∈ l.drop i → okN y) (by
      intro t _
      refine ⟨.inr b, ?_, rfl, ?_⟩
      · simp only [T_bank_Good_l1]; rw [Tr.run_false (by simp), Tr.run_leaf]
      · rw [List.drop_length]; intro y hy; cases hy) (by
      intro i t hi _
      have sa := drop_stepB (l := l) (k := i) hi 0
      simp only [T_bank_Good_l1, Int.toNat_natCast]
      rw [Tr.run_true (by simpa using hi), Tr.run_guard ⟨by omega, by rw [sl_len_ints]; omega⟩, sa]
      by_cases hx : okN (l.getD i 0)
      · refine .inl ⟨(), ?_, trivial, ?_⟩
        · rw [Tr.run_false (out_false hx), Tr.run_leaf, i64_nat (by omega)]
        · intro r hr
          cases r with
          | inl y => exact ⟨hr.1, fun h => hr.2 fun z hz => h z (List.mem_cons_of_mem _ hz)⟩
          | inr y => exact ⟨hr.1, fun z hz => by rcases List.mem_cons.1 hz with rfl | hz; exact hx; exact hr.2 z hz⟩
      · refine .inr ⟨.inl false, ?_, rfl, fun h => hx (h _ (List.mem_cons_self ..))⟩
        rw [Tr.run_true (out_true hx), Tr.run_leaf]) 0 () (by omega) trivial
  have h1 : sh_bank_Good_l1 l.length 0 b l = some r := h1
  have hall : (∀ y, y ∈ l.drop 0 → okN y) ↔ (okN b.Free.x0 ∧ okN b.Free.x1 ∧ okN b.Free.x2 ∧ okN b.Free.x3 ∧ okN b.Bonded ∧ okN b.Waiting ∧ okN b.Burnt) := by
    rw [hl]; simp
  cases r with
  | inl x =>
    rw [Tr.run_inl h1, Tr.run_leaf, h2.1]
    have h3 := h2.2
    rw [hall] at h3
    rw [decide_eq_false]
    rintro ⟨a0, a1, a2, a3, a4, a5, a6, _⟩
    exact h3 ⟨a0, a1, a2, a3, a4, a5, a6⟩
  | inr x =>
    rw [Tr.run_inr h1, h2.1, Tr.run_bind (pl_bankSum b), Tr.run_leaf]
    have h3 := h2.2
    rw [hall] at h3
    obtain ⟨a0, a1, a2, a3, a4, a5, a6⟩ := h3
    have hw : IntKind.i64.wrap (totB b) = totB b := by
      unfold okN at a0 a1 a2 a3 a4 a5 a6
      unfold totB
      exact i64_in (by omega) (by omega)
    rw [hw]
    congr 1
    rw [Bool.eq_iff_iff, beq_iff_eq, decide_eq_true_iff]
    exact ⟨fun h => ⟨a0, a1, a2, a3, a4, a5, a6, h⟩, fun h => h.2.2.2.2.2.2.2⟩

theorem pl_refGoodB (b : Bank) : sh_ref_GoodBank b = some (decide (GoodB b)) := by
  rw [sh_ref_GoodBank, T_ref_GoodBank, Tr.run_bind (v := plA b) (by rw [sh_ref_places, T_ref_places, Tr.run_leaf]; rfl)]
  have bad : ¬ GoodB b → some false = some (decide (GoodB b)) := fun h => by rw [decide_eq_false h]
  by_cases a0 : okN b.Free.x0
  · rw [Tr.run_guard (by omega), Tr.run_false (out_false (x := (plA b).x0) a0)]
    by_cases a1 : okN b.Free.x1
    · rw [Tr.run_guard (by omega), Tr.run_false (out_false (x := (plA b).x1) a1)]
      by_cases a2 : okN b.Free.x2
      · rw [Tr.run_guard (by omega), Tr.run_false (out_false (x := (plA b).x2) a2)]
        by_cases a3 : okN b.Free.x3
        · rw [Tr.run_guard (by omega), Tr.run_false (out_false (x := (plA b).x3) a3)]
          by_cases a4 : okN b.Bonded
          · rw [Tr.run_guard (by omega), Tr.run_false (out_false (x := (plA b).x4) a4)]
            by_cases a5 : okN b.Waiting
            · rw [Tr.run_guard (by omega), Tr.run_false (out_false (x := (plA b).x5) a5)]
              by_cases a6 : okN b.Burnt
              · rw [Tr.run_guard (by omega), Tr.run_false (out_false (x := (plA b).x6) a6), Tr.run_leaf]
                congr 1
                rw [Bool.eq_iff_iff, beq_iff_eq, decide_eq_true_iff]
                have hg : GoodB b ↔ totB b = 400000 := ⟨fun h => h.2.2.2.2.2.2.2, fun h => ⟨a0, a1, a2, a3, a4, a5, a6, h⟩⟩
                rw [hg]
                unfold okN at a0 a1 a2 a3 a4 a5 a6
                simp only [IntKind.wrap_i64, totB, plA]
                omega
              · rw [Tr.run_guard (by omega), Tr.run_true (out_true (x := (plA b).x6) a6), Tr.run_leaf]
                exact bad fun h => a6 h.2.2.2.2.2.2.1
            · rw [Tr.run_guard (by omega), Tr.run_true (out_true (x := (plA b).x5) a5), Tr.run_leaf]
              exact bad fun h => a5 h.2.2.2.2.2.1
          · rw [Tr.run_guard (by omega), Tr.run_true (out_true (x := (plA b).x4) a4), Tr.run_leaf]
            exact bad fun h => a4 h.2.2.2.2.1
        · rw [Tr.run_guard (by omega), Tr.run_true (out_true (x := (plA b).x3) a3), Tr.run_leaf]
          exact bad fun h => a3 h.2.2.2.1
      · rw [Tr.run_guard (by omega), Tr.run_true (out_true (x := (plA b).x2) a2), Tr.run_leaf]
        exact bad fun h => a2 h.2.2.1
    · rw [Tr.run_guard (by omega), Tr.run_true (out_true (x := (plA b).x1) a1), Tr.run_leaf]
      exact bad fun h => a1 h.2.1
  · rw [Tr.run_guard (by omega), Tr.run_true (out_true (x := (plA b).x0) a0), Tr.run_leaf]
    exact bad fun h => a0 h.1

/-- From a place to another one. -/
def movedB (b : Bank) (f t n : Int) : Bank := bkA (((plA b).set f ((plA b).get f - n)).set t ((((plA b).set f ((plA b).get f - n)).get t) + n))
def moveB (b : Bank) (f t n : Int) : Bank × Int :=
  if ¬ (GoodB b ∧ 0 ≤ n ∧ n ≤ 1125899906842624) then (b, 2) else if (plA b).get f < n then (b, 7) else (movedB b f t n, 0)

theorem get_in {b : Bank} (h : GoodB b) (i : Int) : okN ((plA b).get i) := by
  obtain ⟨a0, a1, a2, a3, a4, a5, a6, _⟩ := h
  unfold A7.get plA
  repeat' split
  all_goals assumption

theorem pl_refMove {b : Bank} {f t n : Int} (hf : 0 ≤ f ∧ f < 7) (ht : 0 ≤ t ∧ t < 7) : sh_ref_Move b f t n = some (moveB b f t n) := by
  rw [sh_ref_Move, T_ref_Move, Tr.run_bind (pl_refGoodB b)]
  simp only [pl_refIn, Option.isSome_some, Option.getD_some]
  rw [Tr.run_guard (by simp)]
  unfold moveB
  by_cases hg : GoodB b ∧ 0 ≤ n ∧ n ≤ 1125899906842624
  · rw [if_neg (by simpa using hg), Tr.run_false (by simpa using hg), Tr.run_bind (v := plA b) (by rw [sh_ref_places, T_ref_places, Tr.run_leaf]; rfl), Tr.run_guard hf]
    have h1 := get_in hg.1 f
    unfold okN at h1
    by_cases hl : (plA b).get f < n
    · rw [if_pos hl, Tr.run_true (by simpa using hl), Tr.run_leaf]
    · rw [if_neg hl, Tr.run_false (by simpa using hl), Tr.run_guard hf, Tr.run_guard hf, Tr.run_guard ht, Tr.run_guard ht, i64_in (x := (plA b).get f - n) (by omega) (by omega)]
      have h2 : 0 ≤ ((plA b).set f ((plA b).get f - n)).get t ∧ ((plA b).set f ((plA b).get f - n)).get t ≤ 400000 := by
        obtain ⟨a0, a1, a2, a3, a4, a5, a6, _⟩ := hg.1
        unfold okN at a0 a1 a2 a3 a4 a5 a6
        unfold A7.get A7.set plA
        simp only
        unfold A7.get plA at h1 hl
        simp only at h1 hl
        repeat' split
        all_goals (first | omega | (repeat' split at h1) <;> omega)
      rw [i64_in (x := _ + n) (by omega) (by omega)]
      rw [Tr.run_bind (v := movedB b f t n) (by rw [sh_ref_banked, T_ref_banked, Tr.run_leaf]; rfl), Tr.run_leaf]
  · rw [if_pos hg, Tr.run_true (by rw [← Bool.not_eq_false]; intro k; apply hg; simpa using k), Tr.run_leaf]

theorem pl_free1 {b : Bank} {d : Int} (h : 0 ≤ d ∧ d < 4) : sh_bank_free_1 b d = some (d, b, d) := by rw [sh_bank_free_1, T_bank_free_1, Tr.run_guard h, Tr.run_leaf]
theorem pl_bonded (b : Bank) : sh_bank_bonded b = some b := by rw [sh_bank_bonded, T_bank_bonded, Tr.run_leaf]
theorem pl_waiting (b : Bank) : sh_bank_waiting b = some b := by rw [sh_bank_waiting, T_bank_waiting, Tr.run_leaf]
theorem pl_burnt (b : Bank) : sh_bank_burnt b = some b := by rw [sh_bank_burnt, T_bank_burnt, Tr.run_leaf]

theorem get_free {b : Bank} {d : Int} (h : 0 ≤ d ∧ d < 4) : b.Free.get d = (plA b).get d := by
  unfold A4.get A7.get plA
  repeat' split
  all_goals first | rfl | omega

theorem pl_move0 {b : Bank} {d n : Int} (hd : 0 ≤ d ∧ d < 4) : sh_bank_move_0 b n d = some ((moveB b d 4 n).1, (moveB b d 4 n).2, d) := by
  rw [sh_bank_move_0, T_bank_move_0, Tr.run_bind (pl_bankGood b)]
  simp only [pl_In, Option.isSome_some, Option.getD_some]
  rw [Tr.run_guard (by simp)]
  unfold moveB
  by_cases hg : GoodB b ∧ 0 ≤ n ∧ n ≤ 1125899906842624
  · rw [if_neg (by simpa using hg), Tr.run_false (by simpa using hg), Tr.run_bind (pl_free1 hd)]
    simp only []
    rw [get_free hd]
    have h1 := get_in hg.1 d
    have h2 := get_in hg.1 4
    unfold okN at h1 h2
    by_cases hl : (plA b).get d < n
    · rw [if_pos hl, Tr.run_true (by simpa using hl), Tr.run_leaf]
    · rw [if_neg hl, Tr.run_false (by simpa using hl), Tr.run_bind (pl_free1 hd)]
      simp only []
      rw [get_free hd, i64_in (x := (plA b).get d - n) (by omega) (by omega), Tr.run_bind (pl_bonded _), Tr.run_leaf]
      simp only []
      rw [i64_in (x := b.Bonded + n) (by have : (plA b).get 4 = b.Bonded := rfl; omega) (by have : (plA b).get 4 = b.Bonded := rfl; omega)]
      obtain rfl | rfl | rfl | rfl : d = 0 ∨ d = 1 ∨ d = 2 ∨ d = 3 := by omega
      all_goals simp [movedB, bkA, plA, A7.get, A7.set, A4.set]
  · rw [if_pos hg, Tr.run_true (by rw [← Bool.not_eq_false]; intro k; apply hg; simpa using k), Tr.run_leaf]

theorem pl_move2 {b : Bank} {d n : Int} (hd : 0 ≤ d ∧ d < 4) : sh_bank_move_2 b n d = some ((moveB b 5 d n).1, (moveB b 5 d n).2, d) := by
  rw [sh_bank_move_2, T_bank_move_2, Tr.run_bind (pl_bankGood b)]
  simp only [pl_In, Option.isSome_some, Option.getD_some]
  rw [Tr.run_guard (by simp)]
  unfold moveB
  by_cases hg : GoodB b ∧ 0 ≤ n ∧ n ≤ 1125899906842624
  · have h1 := get_in hg.1 d
    have h2 : okN b.Waiting := hg.1.2.2.2.2.2.1
    have h5 : (plA b).get 5 = b.Waiting := rfl
    unfold okN at h1 h2
    rw [if_neg (by simpa using hg), Tr.run_false (by simpa using hg), Tr.run_bind (pl_waiting _), h5]
    by_cases hl : b.Waiting < n
    · rw [if_pos hl, Tr.run_true (by simpa using hl), Tr.run_leaf]
    · rw [if_neg hl, Tr.run_false (by simpa using hl), Tr.run_bind (pl_waiting _), Tr.run_bind (pl_free1 hd)]
      simp only []
      rw [Tr.run_leaf, get_free hd, i64_in (x := b.Waiting - n) (by omega) (by omega), i64_in (x := (plA b).get d + n) (by omega) (by omega)]
      obtain rfl | rfl | rfl | rfl : d = 0 ∨ d = 1 ∨ d = 2 ∨ d = 3 := by omega
      all_goals simp [movedB, bkA, plA, A7.get, A7.set, A4.set]
  · rw [if_pos hg, Tr.run_true (by rw [← Bool.not_eq_false]; intro k; apply hg; simpa using k), Tr.run_leaf]

theorem pl_move1 {b : Bank} {n : Int} : sh_bank_move_1 b n = some (moveB b 4 5 n) := by
  rw [sh_bank_move_1, T_bank_move_1, Tr.run_bind (pl_bankGood b)]
  simp only [pl_In, Option.isSome_some, Option.getD_some]
  rw [Tr.run_guard (by simp)]
  unfold moveB
  by_cases hg : GoodB b ∧ 0 ≤ n ∧ n ≤ 1125899906842624
  · have h1 : okN b.Bonded := hg.1.2.2.2.2.1
    have h2 : okN b.Waiting := hg.1.2.2.2.2.2.1
    have h5 : (plA b).get 4 = b.Bonded := rfl
    unfold okN at h1 h2
    rw [if_neg (by simpa using hg), Tr.run_false (by simpa using hg), Tr.run_bind (pl_bonded _), h5]
    by_cases hl : b.Bonded < n
    · rw [if_pos hl, Tr.run_true (by simpa using hl), Tr.run_leaf]
    · rw [if_neg hl, Tr.run_false (by simpa using hl), Tr.run_bind (pl_bonded _), Tr.run_bind (pl_waiting _), Tr.run_leaf]
      simp only []
      rw [i64_in (x := b.Bonded - n) (by omega) (by omega), i64_in (x := b.Waiting + n) (by omega) (by omega)]
      simp [movedB, bkA, plA, A7.get, A7.set, A4.set]
  · rw [if_pos hg, Tr.run_true (by rw [← Bool.not_eq_false]; intro k; apply hg; simpa using k), Tr.run_leaf]

theorem pl_move3 {b : Bank} {n : Int} : sh_bank_move_3 b n = some (moveB b 4 6 n) := by
  rw [sh_bank_move_3, T_bank_move_3, Tr.run_bind (pl_bankGood b)]
  simp only [pl_In, Option.isSome_some, Option.getD_some]
  rw [Tr.run_guard (by simp)]
  unfold moveB
  by_cases hg : GoodB b ∧ 0 ≤ n ∧ n ≤ 1125899906842624
  · have h1 : okN b.Bonded := hg.1.2.2.2.2.1
    have h2 : okN b.Burnt := hg.1.2.2.2.2.2.2.1
    have h5 : (plA b).get 4 = b.Bonded := rfl
    unfold okN at h1 h2
    rw [if_neg (by simpa using hg), Tr.run_false (by simpa using hg), Tr.run_bind (pl_bonded _), h5]
    by_cases hl : b.Bonded < n
    · rw [if_pos hl, Tr.run_true (by simpa using hl), Tr.run_leaf]
    · rw [if_neg hl, Tr.run_false (by simpa using hl), Tr.run_bind (pl_bonded _), Tr.run_bind (pl_burnt _), Tr.run_leaf]
      simp only []
      rw [i64_in (x := b.Bonded - n) (by omega) (by omega), i64_in (x := b.Burnt + n) (by omega) (by omega)]
      simp [movedB, bkA, plA, A7.get, A7.set, A4.set]
  · rw [if_pos hg, Tr.run_true (by rw [← Bool.not_eq_false]; intro k; apply hg; simpa using k), Tr.run_leaf]

theorem pl_move4 {b : Bank} {n : Int} : sh_bank_move_4 b n = some (moveB b 5 6 n) := by
  rw [sh_bank_move_4, T_bank_move_4, Tr.run_bind (pl_bankGood b)]
  simp only [pl_In, Option.isSome_some, Option.getD_some]
  rw [Tr.run_guard (by simp)]
  unfold moveB
  by_cases hg : GoodB b ∧ 0 ≤ n ∧ n ≤ 1125899906842624
  · have h1 : okN b.Waiting := hg.1.2.2.2.2.2.1
    have h2 : okN b.Burnt := hg.1.2.2.2.2.2.2.1
    have h5 : (plA b).get 5 = b.Waiting := rfl
    unfold okN at h1 h2
    rw [if_neg (by simpa using hg), Tr.run_false (by simpa using hg), Tr.run_bind (pl_waiting _), h5]
    by_cases hl : b.Waiting < n
    · rw [if_pos hl, Tr.run_true (by simpa using hl), Tr.run_leaf]
    · rw [if_neg hl, Tr.run_false (by simpa using hl), Tr.run_bind (pl_waiting _), Tr.run_bind (pl_burnt _), Tr.run_leaf]
      simp only []
      rw [i64_in (x := b.Waiting - n) (by omega) (by omega), i64_in (x := b.Burnt + n) (by omega) (by omega)]
      simp [movedB, bkA, plA, A7.get, A7.set, A4.set]
  · rw [if_pos hg, Tr.run_true (by rw [← Bool.not_eq_false]; intro k; apply hg; simpa using k), Tr.run_leaf]

def bondB (b : Bank) (d n : Int) : Bank × Int := if d < 0 ∨ 3 < d then (b, 4) else moveB b d 4 n
def payB (b : Bank) (d n : Int) : Bank × Int := if d < 0 ∨ 3 < d then (b, 4) else moveB b 5 d n
def burnB (b : Bank) (x y : Int) : Bank × Int :=
  if (moveB b 4 6 x).2 ≠ 0 then (b, (moveB b 4 6 x).2) else if (moveB (moveB b 4 6 x).1 5 6 y).2 ≠ 0 then (b, (moveB (moveB b 4 6 x).1 5 6 y).2) else ((moveB (moveB b 4 6 x).1 5 6 y).1, 0)

theorem pl_Bond {b : Bank} {d n : Int} : sh_bank_Bond b d n = some (bondB b d n) := by
  rw [sh_bank_Bond, T_bank_Bond, Tr.run_bind (v := decide (0 ≤ d ∧ d < 4)) (by rw [sh_bank_delegator, T_bank_delegator, Tr.run_leaf, Bool.decide_and])]
  unfold bondB
  by_cases hd : 0 ≤ d ∧ d < 4
  · have e1 : sh_bank_free d = some d := by rw [sh_bank_free, T_bank_free, Tr.run_leaf]
    rw [if_neg (by omega), Tr.run_false (by simpa using hd)]
    simp only [e1, pl_move0 hd, Option.isSome_some, Option.getD_some]
    rw [Tr.run_guard (by trivial), Tr.run_guard (by trivial), Tr.run_leaf]
  · rw [if_pos (by omega), Tr.run_true (by simp; omega), Tr.run_leaf]

theorem pl_PayB {b : Bank} {d n : Int} : sh_bank_Pay b d n = some (payB b d n) := by
  rw [sh_bank_Pay, T_bank_Pay, Tr.run_bind (v := decide (0 ≤ d ∧ d < 4)) (by rw [sh_bank_delegator, T_bank_delegator, Tr.run_leaf, Bool.decide_and])]
  unfold payB
  by_cases hd : 0 ≤ d ∧ d < 4
  · have e1 : sh_bank_free d = some d := by rw [sh_bank_free, T_bank_free, Tr.run_leaf]
    rw [if_neg (by omega), Tr.run_false (by simpa using hd)]
    simp only [e1, pl_move2 hd, Option.isSome_some, Option.getD_some]
    rw [Tr.run_guard (by trivial), Tr.run_guard (by trivial), Tr.run_leaf]
  · rw [if_pos (by omega), Tr.run_true (by simp; omega), Tr.run_leaf]

theorem pl_Unbond {b : Bank} {n : Int} : sh_bank_Unbond b n = some (moveB b 4 5 n) := by
  rw [sh_bank_Unbond, T_bank_Unbond, Tr.run_bind pl_move1, Tr.run_leaf]

theorem pl_Burn {b : Bank} {x y : Int} : sh_bank_Burn b x y = some (burnB b x y) := by
  rw [sh_bank_Burn, T_bank_Burn, Tr.run_bind pl_move3]
  unfold burnB
  by_cases h : (moveB b 4 6 x).2 = 0
  · rw [if_neg (by simpa using h), Tr.run_false (by simpa using h), Tr.run_bind pl_move4]
    by_cases h2 : (moveB (moveB b 4 6 x).1 5 6 y).2 = 0
    · rw [if_neg (by simpa using h2), Tr.run_false (by simpa using h2), Tr.run_leaf]
    · rw [if_pos h2, Tr.run_true (by simpa using h2), Tr.run_leaf]
  · rw [if_pos h, Tr.run_true (by simpa using h), Tr.run_leaf]

theorem pl_refBond {b : Bank} {d n : Int} : sh_ref_Bond b d n = some (bondB b d n) := by
  rw [sh_ref_Bond, T_ref_Bond]
  unfold bondB
  by_cases hd : d < 0 ∨ 3 < d
  · rw [if_pos hd, Tr.run_true (by simpa using hd), Tr.run_leaf]
  · rw [if_neg hd, Tr.run_false (by simp; omega), Tr.run_bind (pl_refMove (by omega) (by omega)), Tr.run_leaf]

theorem pl_refPay {b : Bank} {d n : Int} : sh_ref_Pay b d n = some (payB b d n) := by
  rw [sh_ref_Pay, T_ref_Pay]
  unfold payB
  by_cases hd : d < 0 ∨ 3 < d
  · rw [if_pos hd, Tr.run_true (by simpa using hd), Tr.run_leaf]
  · rw [if_neg hd, Tr.run_false (by simp; omega), Tr.run_bind (pl_refMove (by omega) (by omega)), Tr.run_leaf]

theorem pl_refUnbond {b : Bank} {n : Int} : sh_ref_Unbond b n = some (moveB b 4 5 n) := by
  rw [sh_ref_Unbond, T_ref_Unbond, Tr.run_bind (pl_refMove (by omega) (by omega)), Tr.run_leaf]

theorem pl_refBurn {b : Bank} {x y : Int} : sh_ref_Burn b x y = some (burnB b x y) := by
  rw [sh_ref_Burn, T_ref_Burn, Tr.run_bind (pl_refMove (by omega) (by omega))]
  unfold burnB
  by_cases h : (moveB b 4 6 x).2 = 0
  · rw [if_neg (by simpa using h), Tr.run_false (by simpa using h), Tr.run_bind (pl_refMove (by omega) (by omega))]
    by_cases h2 : (moveB (moveB b 4 6 x).1 5 6 y).2 = 0
    · rw [if_neg (by simpa using h2), Tr.run_false (by simpa using h2), Tr.run_leaf]
    · rw [if_pos h2, Tr.run_true (by simpa using h2), Tr.run_leaf]
  · rw [if_pos h, Tr.run_true (by simpa using h), Tr.run_leaf]

def newB : Bank := ⟨⟨100000, 100000, 100000, 100000⟩, 0, 0, 0⟩
theorem newB_good : GoodB newB := by decide

theorem pl_bankNew : sh_bank_New = some newB := by
  have key : sh_bank_New_l1 0 (⟨(⟨0, 0, 0, 0⟩ : (A4 Int)), 0, 0, 0⟩ : Bank) (⟨(⟨0, 0, 0, 0⟩ : (A4 Int)), 0, 0, 0⟩ : Bank) = some (⟨⟨0, 0, 0, 0⟩, 0, 0, 0⟩, newB) := by
    rw [sh_bank_New_l1]
    refine (iter_inl' (s' := (1, ⟨⟨0, 0, 0, 0⟩, 0, 0, 0⟩, ⟨⟨100000, 0, 0, 0⟩, 0, 0, 0⟩)) ?_).trans ((iter_inl' (s' := (2, ⟨⟨0, 0, 0, 0⟩, 0, 0, 0⟩, ⟨⟨100000, 100000, 0, 0⟩, 0, 0, 0⟩)) ?_).trans ((iter_inl' (s' := (3, ⟨⟨0, 0, 0, 0⟩, 0, 0, 0⟩, ⟨⟨100000, 100000, 100000, 0⟩, 0, 0, 0⟩)) ?_).trans ((iter_inl' (s' := (4, ⟨⟨0, 0, 0, 0⟩, 0, 0, 0⟩, newB)) ?_).trans (iter_inr' ?_))))
    · simp only [T_bank_New_l1]; rw [Tr.run_true (by rfl), Tr.run_guard (by omega), Tr.run_leaf]; rfl
    · simp only [T_bank_New_l1]; rw [Tr.run_true (by rfl), Tr.run_guard (by omega), Tr.run_leaf]; rfl
    · simp only [T_bank_New_l1]; rw [Tr.run_true (by rfl), Tr.run_guard (by omega), Tr.run_leaf]; rfl
    · simp only [T_bank_New_l1]; rw [Tr.run_true (by rfl), Tr.run_guard (by omega), Tr.run_leaf]; rfl
    · simp only [T_bank_New_l1]; rw [Tr.run_false (by rfl), Tr.run_leaf]
  rw [sh_bank_New, T_bank_New, Tr.run_bind key, Tr.run_leaf]

theorem pl_refNew : sh_ref_NewBank = some newB := by
  rw [sh_ref_NewBank, T_ref_NewBank, Tr.run_bind (v := newB) (by rw [sh_ref_banked, T_ref_banked, Tr.run_leaf]; rfl), Tr.run_leaf]

theorem bond_new : bondB newB 1 5 = (⟨⟨100000, 99995, 100000, 100000⟩, 5, 0, 0⟩, 0) := by
  rfl

end Go.Proofs.Ytbpehnghffljiaa.Ab
