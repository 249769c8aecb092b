/-
  Sets of powers and what parts them, with no program in sight.
-/
import Derived.Test.YtbpehnghffljiaaFStakeB
import Derived.Test.YtbpehnghffljiaaFRatio
import Derived.Test.YtbpehnghffljiaaPlBase
namespace Go.Proofs.Ytbpehnghffljiaa.Ab
open Go Go.RowKit
set_option linter.unusedVariables false
set_option linter.unusedSimpArgs false

theorem pl_sameN {l : List Int} (hl : l.length ≤ 9223372036854775807) : sh_ref_SameNumbers l l = some true := by
  have key : sh_ref_SameNumbers_l1 l l l.length 0 = some (.inr ()) := by
    refine iter_fun (F := fun s : (List Int) × (List Int) × Int × Int => (T_ref_SameNumbers_l1 s.1 s.2.1 s.2.2.1 s.2.2.2).run)
      (fun s => s.1 = l ∧ s.2.1 = l ∧ s.2.2.1 = l.length ∧ 0 ≤ s.2.2.2 ∧ s.2.2.2 ≤ l.length) (fun s => l.length - s.2.2.2.toNat) (fun _ => .inr ()) ?_ (l, l, (l.length : Int), 0) ⟨rfl, rfl, rfl, by simp, by simp⟩
    rintro ⟨x0, x1, x2, x3⟩ ⟨h1, h2, h3, h4, h5⟩
    simp only at h1 h2 h3 h4 h5
    subst h2; subst h1; subst h3
    simp only [T_ref_SameNumbers_l1]
    by_cases hc : x3 < x0.length
    · refine .inl ⟨_, by rw [Tr.run_true (by simpa using hc), Tr.run_guard ⟨h4, hc⟩, Tr.run_guard ⟨h4, hc⟩, Tr.run_false (by simp), Tr.run_leaf], ⟨rfl, rfl, rfl, ?_, ?_⟩, ?_, trivial⟩
      all_goals (simp only []; rw [i64_in (by omega) (by omega)]; omega)
    · exact .inr (by rw [Tr.run_false (by simpa using hc), Tr.run_leaf])
  rw [sh_ref_SameNumbers, T_ref_SameNumbers, Tr.run_false (by simp), Tr.run_inr key, Tr.run_leaf]

theorem pl_pick {a n : Int} (h0 : 0 < n) (h1 : n ≤ 4611686018427387904) : ∃ v, sh_keep_pick a n = some v ∧ 0 ≤ v ∧ v < n := by
  rw [sh_keep_pick, T_keep_pick, Tr.run_guard (by omega)]
  have k1 : a.tmod n < n := Int.tmod_lt_of_pos a h0
  have k2 : -n < a.tmod n := Int.lt_tmod_of_pos a h0
  by_cases h : a.tmod n < 0
  · refine ⟨_, by rw [Tr.run_true (by simpa using h), Tr.run_leaf], ?_⟩
    rw [i64_in (by omega) (by omega)]; omega
  · exact ⟨_, by rw [Tr.run_false (by simpa using h), Tr.run_leaf], by omega, k1⟩

/-- Two lists compared by places, each step by a test `e`. -/
theorem pl_refsameS {a b : List Power} (hl : a.length ≤ 9223372036854775807) : ∃ r, sh_ref_SamePowers a b = some r ∧ (r = true ↔ a = b) := by
  rw [sh_ref_SamePowers, T_ref_SamePowers]
  by_cases h : a.length = b.length
  · rw [Tr.run_false (by simp; omega)]
    obtain ⟨r, h1, h2⟩ := iter_upto (F := fun s : (List Power) × (List Power) × Int × Int => (T_ref_SamePowers_l1 s.1 s.2.1 s.2.2.1 s.2.2.2).run) a.length
      (fun i (_ : Unit) => (a, b, (a.length : Int), (i : Int))) (fun i _ => True) (fun i _ r => match r with | .inl x => x = false ∧ a.drop i ≠ b.drop i | .inr _ => a.drop i = b.drop i) (by
        intro t _
        refine ⟨.inr (), ?_, ?_⟩
        · simp only [T_ref_SamePowers_l1]; rw [Tr.run_false (by simp), Tr.run_leaf]
        · rw [List.drop_length, h, List.drop_length]) (by
        intro i t hi _
        have sa := drop_step (l := a) (k := i) hi default
        have sb := drop_step (l := b) (k := i) (by omega) default
        simp only [T_ref_SamePowers_l1, Int.toNat_natCast]
        rw [Tr.run_true (by simpa using hi), Tr.run_guard ⟨by omega, by rw [sl_len_powers]; omega⟩, Tr.run_guard ⟨by omega, by rw [sl_len_powers]; omega⟩, sa, sb]
        generalize a.getD i default = x
        generalize b.getD i default = y
        by_cases hxy : x = y
        · subst hxy
          refine .inl ⟨(), ?_, trivial, ?_⟩
          · rw [Tr.run_false (by simp), Tr.run_leaf, i64_nat (by omega)]
          · intro r hr; cases r <;> simpa using hr
        · refine .inr ⟨.inl false, ?_, rfl, ?_⟩
          · rw [Tr.run_true (by cases x; cases y; simp only [Power.mk.injEq, not_and] at hxy; simp only [Bool.not_eq_true', Bool.and_true, Bool.and_eq_false_iff, beq_eq_false_iff_ne]; omega), Tr.run_leaf]
          · simp [hxy]) 0 () (by omega) trivial
    have h1 : sh_ref_SamePowers_l1 a b (a.length : Int) 0 = some r := h1
    cases r with
    | inl x => exact ⟨false, by rw [Tr.run_inl h1, Tr.run_leaf, h2.1], by simpa using h2.2⟩
    | inr x => exact ⟨true, by rw [Tr.run_inr h1, Tr.run_leaf], by simpa using h2⟩
  · exact ⟨false, by rw [Tr.run_true (by simp; omega), Tr.run_leaf], by simp; intro e; rw [e] at h; exact h rfl⟩

theorem pl_keepsameS {a b : List Power} (hl : a.length ≤ 9223372036854775807) : ∃ r, sh_keep_samePowers a b = some r ∧ (r = true ↔ a = b) := by
  rw [sh_keep_samePowers, T_keep_samePowers]
  by_cases h : a.length = b.length
  · rw [Tr.run_false (by simp; omega)]
    obtain ⟨r, h1, h2⟩ := iter_upto (F := fun s : (List Power) × (List Power) × Int => (T_keep_samePowers_l1 s.1 s.2.1 s.2.2).run) a.length
      (fun i (_ : Unit) => (a, b, (i : Int))) (fun i _ => True) (fun i _ r => match r with | .inl x => x = false ∧ a.drop i ≠ b.drop i | .inr _ => a.drop i = b.drop i) (by
        intro t _
        refine ⟨.inr (), ?_, ?_⟩
        · simp only [T_keep_samePowers_l1]; rw [Tr.run_false (by simp), Tr.run_leaf]
        · rw [List.drop_length, h, List.drop_length]) (by
        intro i t hi _
        have sa := drop_step (l := a) (k := i) hi default
        have sb := drop_step (l := b) (k := i) (by omega) default
        simp only [T_keep_samePowers_l1, Int.toNat_natCast]
        rw [Tr.run_true (by simpa using hi), Tr.run_guard ⟨by omega, by rw [sl_len_powers]; omega⟩, Tr.run_guard ⟨by omega, by rw [sl_len_powers]; omega⟩, sa, sb]
        generalize a.getD i default = x
        generalize b.getD i default = y
        by_cases hxy : x = y
        · subst hxy
          refine .inl ⟨(), ?_, trivial, ?_⟩
          · rw [Tr.run_false (by simp), Tr.run_leaf, i64_nat (by omega)]
          · intro r hr; cases r <;> simpa using hr
        · refine .inr ⟨.inl false, ?_, rfl, ?_⟩
          · rw [Tr.run_true (by cases x; cases y; simp only [Power.mk.injEq, not_and] at hxy; simp only [Bool.not_eq_true', Bool.and_true, Bool.and_eq_false_iff, beq_eq_false_iff_ne]; omega), Tr.run_leaf]
          · simp [hxy]) 0 () (by omega) trivial
    have h1 : sh_keep_samePowers_l1 a b 0 = some r := h1
    cases r with
    | inl x => exact ⟨false, by rw [Tr.run_inl h1, Tr.run_leaf, h2.1], by simpa using h2.2⟩
    | inr x => exact ⟨true, by rw [Tr.run_inr h1, Tr.run_leaf], by simpa using h2⟩
  · exact ⟨false, by rw [Tr.run_true (by simp; omega), Tr.run_leaf], by simp; intro e; rw [e] at h; exact h rfl⟩

def findP : List Power → Int → Int
  | [], _ => 0
  | p :: l, v => if p.V = v then p.N else findP l v

def lastP (d : List Power) (v n : Int) : Int := d.foldl (fun n p => if p.V = v then p.N else n) n

def oneP (v n : Int) : List Power := if 0 < n then [⟨v, n⟩] else []

def setOf (f : Nat → Int) : List Power := (List.range 6).foldl (fun t (v : Nat) => t ++ oneP (v : Int) (f v)) []

def applyP (a d : List Power) : List Power := setOf (fun v => lastP d v (findP a v))

theorem oneP_len (v n : Int) : (oneP v n).length ≤ 1 := by unfold oneP; split <;> simp

theorem setOf_len (f : Nat → Int) : (setOf f).length ≤ 6 := by
  have h : ∀ (l : List Nat) (t : List Power), (l.foldl (fun t (v : Nat) => t ++ oneP v (f v)) t).length ≤ t.length + l.length := by
    intro l
    induction l with
    | nil => intro t; simp
    | cons a l ih =>
      intro t
      have h1 := ih (t ++ oneP a (f a))
      have h2 := oneP_len a (f a)
      simp only [List.foldl_cons, List.length_append, List.length_cons] at h1 ⊢
      omega
  have := h (List.range 6) []
  simpa [setOf] using this

theorem pl_find {l : List Power} {v : Int} (hl : l.length ≤ 9223372036854775807) : sh_stake_find l v = some (findP l v) := by
  obtain ⟨r, h1, h2⟩ := iter_upto (F := fun s : Int × (List Power) × Int × Int => (T_stake_find_l1 s.1 s.2.1 s.2.2.1 s.2.2.2).run) l.length
    (fun i (_ : Unit) => (v, l, (l.length : Int), (i : Int))) (fun i _ => True) (fun i _ r => match r with | .inl x => findP (l.drop i) v = x | .inr _ => findP (l.drop i) v = 0) (by
      intro t _
      refine ⟨.inr (), ?_, ?_⟩
      · simp only [T_stake_find_l1]; rw [Tr.run_false (by simp), Tr.run_leaf]
      · rw [List.drop_length]; rfl) (by
      intro i t hi _
      have hs := drop_step (l := l) (k := i) hi default
      simp only [T_stake_find_l1, Int.toNat_natCast]
      rw [Tr.run_true (by simpa using hi), Tr.run_guard ⟨by omega, by rw [sl_len_powers]; omega⟩, hs]
      by_cases hv : (l.getD i default).V = v
      · exact .inr ⟨.inl (l.getD i default).N, by rw [Tr.run_true (by rw [hv]; simp), Tr.run_leaf], by simp only [findP]; rw [if_pos hv]⟩
      · refine .inl ⟨(), by rw [Tr.run_false (by simpa using hv), Tr.run_leaf, i64_nat (by omega)], trivial, ?_⟩
        intro r hr
        simp only [findP]
        rw [if_neg hv]
        exact hr) 0 () (by omega) trivial
  have h1 : sh_stake_find_l1 v l l.length 0 = some r := h1
  simp only [List.drop_zero] at h2
  rw [sh_stake_find, T_stake_find]
  cases r with
  | inl x => rw [Tr.run_inl h1, Tr.run_leaf, ← h2]
  | inr x => rw [Tr.run_inr h1, Tr.run_leaf, h2]

theorem apply_l1 {a d acc : List Power} {v n w : Int} (hl : d.length ≤ 9223372036854775807) :
    sh_stake_Apply_l1 a d v n w d d.length 0 acc = some (a, d, v, lastP d v n, w, acc) := by
  rw [sh_stake_Apply_l1]
  refine loop_fold (F := fun s : (List Power) × (List Power) × Int × Int × Int × (List Power) × Int × Int × (List Power) => (T_stake_Apply_l1 s.1 s.2.1 s.2.2.1 s.2.2.2.1 s.2.2.2.2.1 s.2.2.2.2.2.1 s.2.2.2.2.2.2.1 s.2.2.2.2.2.2.2.1 s.2.2.2.2.2.2.2.2).run) d default
    (fun i n => (a, d, v, n, w, d, (d.length : Int), (i : Int), acc)) (fun _ _ => True) (fun n p => if p.V = v then p.N else n) (fun n => (a, d, v, n, w, acc)) ?_ ?_ n trivial
  · intro t _
    simp only [T_stake_Apply_l1]; rw [Tr.run_false (by simp), Tr.run_leaf]
  · intro i t hi _
    refine ⟨?_, trivial⟩
    simp only [T_stake_Apply_l1, Int.toNat_natCast]
    rw [Tr.run_true (by simpa using hi), Tr.run_guard ⟨by omega, by rw [sl_len_powers]; omega⟩]
    by_cases hv : (d.getD i default).V = v
    · rw [if_pos hv, Tr.run_true (by rw [hv]; simp), Tr.run_leaf, i64_nat (by omega)]
    · rw [if_neg hv, Tr.run_false (by simpa using hv), Tr.run_leaf, i64_nat (by omega)]

theorem range_getD {i n : Nat} (h : i < n) : (List.range n).getD i 0 = i := by
  rw [List.getD_eq_getElem?_getD, List.getElem?_range h]; rfl

theorem pl_Apply {a d : List Power} (ha : a.length ≤ 9223372036854775807) (hd : d.length ≤ 9223372036854775807) : sh_stake_Apply a d = some (applyP a d) := by
  have key : sh_stake_Apply_l2 a d 0 [] = some (applyP a d) := by
    rw [sh_stake_Apply_l2]
    refine loop_fold (F := fun s : (List Power) × (List Power) × Int × (List Power) => (T_stake_Apply_l2 s.1 s.2.1 s.2.2.1 s.2.2.2).run) (List.range 6) 0
      (fun i t => (a, d, (i : Int), t)) (fun i t => t.length ≤ i) (fun t (v : Nat) => t ++ oneP v (lastP d v (findP a v))) (fun t => t) ?_ ?_ [] (by simp)
    · intro t _
      simp only [T_stake_Apply_l2, List.length_range]; rw [Tr.run_false (by rfl), Tr.run_leaf]
    · intro i t hi ht
      rw [List.length_range] at hi
      rw [range_getD hi]
      have h1 := oneP_len i (lastP d i (findP a i))
      refine ⟨?_, by rw [List.length_append]; omega⟩
      simp only [T_stake_Apply_l2]
      rw [Tr.run_true (by simp; omega), Tr.run_bind (pl_find ha), Tr.run_bind (apply_l1 hd)]
      simp only []
      unfold oneP
      by_cases hp : 0 < lastP d i (findP a i)
      · rw [if_pos hp, Tr.run_true (by simpa using hp), Tr.run_guard (by simp only [sl_len_powers, List.length_singleton]; omega), Tr.run_leaf, i64_nat (by omega)]
      · rw [if_neg hp, Tr.run_false (by simpa using hp), Tr.run_leaf, i64_nat (by omega), List.append_nil]
  rw [sh_stake_Apply, T_stake_Apply, Tr.run_bind key, Tr.run_leaf]

def rowA (a : List Power) : A6 Int := ⟨findP a 0, findP a 1, findP a 2, findP a 3, findP a 4, findP a 5⟩

theorem rowA_cons_in {p : Power} {l : List Power} : (rowA l).set p.V p.N = rowA (p :: l) := rfl

theorem rowA_cons_out {p : Power} {l : List Power} (h : ¬ (0 ≤ p.V ∧ p.V < 6)) : rowA (p :: l) = rowA l := by
  unfold rowA
  simp only [findP]
  rw [if_neg (by omega), if_neg (by omega), if_neg (by omega), if_neg (by omega), if_neg (by omega), if_neg (by omega)]

theorem pl_row {a : List Power} (ha : a.length ≤ 9223372036854775807) : sh_ref_row a = some (rowA a) := by
  have key : sh_ref_row_l1 a ((a.length : Int) - 1) (⟨0, 0, 0, 0, 0, 0⟩ : (A6 Int)) (⟨0, 0, 0, 0, 0, 0⟩ : (A6 Int)) = some (⟨0, 0, 0, 0, 0, 0⟩, rowA a) := by
    have := iter_uptof (F := fun s : (List Power) × Int × (A6 Int) × (A6 Int) => (T_ref_row_l1 s.1 s.2.1 s.2.2.1 s.2.2.2).run) a.length
      (fun i (t : A6 Int) => (a, (a.length : Int) - 1 - i, (⟨0, 0, 0, 0, 0, 0⟩ : (A6 Int)), t)) (fun i t => t = rowA (a.drop (a.length - i))) (fun _ _ => ((⟨0, 0, 0, 0, 0, 0⟩ : (A6 Int)), rowA a)) (by
        intro t ht
        simp only [T_ref_row_l1]
        rw [Tr.run_false (by simp; omega), Tr.run_leaf, ht, Nat.sub_self, List.drop_zero]) (by
        intro i t hi ht
        have hs := drop_step (l := a) (k := a.length - (i + 1)) (by omega) default
        rw [show a.length - (i + 1) + 1 = a.length - i by omega] at hs
        have hn : ((a.length : Int) - 1 - (i : Int)).toNat = a.length - (i + 1) := by omega
        have hw : IntKind.i64.wrap ((a.length : Int) - 1 - (i : Int) - 1) = (a.length : Int) - 1 - ((i + 1 : Nat) : Int) := by rw [i64_in (by omega) (by omega)]; omega
        simp only [T_ref_row_l1, hn, hw]
        rw [Tr.run_true (by simp; omega), Tr.run_guard ⟨by omega, by rw [sl_len_powers]; omega⟩, Tr.run_guard (by intro _; exact ⟨⟨by omega, by rw [sl_len_powers]; omega⟩, trivial⟩)]
        by_cases hv : 0 ≤ (a.getD (a.length - (i + 1)) default).V ∧ (a.getD (a.length - (i + 1)) default).V < 6
        · refine .inl ⟨rowA (a.drop (a.length - (i + 1))), ?_, rfl, by trivial⟩
          rw [Tr.run_true (by simpa using hv), Tr.run_guard ⟨by omega, by rw [sl_len_powers]; omega⟩, Tr.run_guard ⟨by omega, by rw [sl_len_powers]; omega⟩, Tr.run_guard hv, Tr.run_leaf, ht, hs]
          rfl
        · refine .inl ⟨rowA (a.drop (a.length - (i + 1))), ?_, rfl, by trivial⟩
          rw [Tr.run_false (by simp only [Bool.and_eq_false_iff, decide_eq_false_iff_not]; omega), Tr.run_leaf, ht, hs, rowA_cons_out hv]) 0 ⟨0, 0, 0, 0, 0, 0⟩ (by omega) (by rw [Nat.sub_zero, List.drop_length]; rfl)
    simp only [Int.sub_zero, Int.natCast_zero, Int.ofNat_zero, Int.ofNat_eq_natCast] at this
    rw [sh_ref_row_l1]
    exact this
  rw [sh_ref_row, T_ref_row, i64_in (by omega) (by omega), Tr.run_bind key, Tr.run_leaf]

def chA (t : A6 Int) (p : Power) : A6 Int := if 0 ≤ p.V ∧ p.V < 6 then t.set p.V p.N else t

theorem chA_fold : ∀ (d : List Power) (t : A6 Int), d.foldl chA t = ⟨lastP d 0 t.x0, lastP d 1 t.x1, lastP d 2 t.x2, lastP d 3 t.x3, lastP d 4 t.x4, lastP d 5 t.x5⟩
  | [], t => rfl
  | p :: d, t => by
    rw [List.foldl_cons, chA_fold d]
    unfold chA
    by_cases h : 0 ≤ p.V ∧ p.V < 6
    · rw [if_pos h]; rfl
    · rw [if_neg h]
      simp only [lastP, List.foldl_cons]
      rw [if_neg (by omega), if_neg (by omega), if_neg (by omega), if_neg (by omega), if_neg (by omega), if_neg (by omega)]

theorem A6_get (f : Nat → Int) {i : Nat} (h : i < 6) : (⟨f 0, f 1, f 2, f 3, f 4, f 5⟩ : A6 Int).get (i : Int) = f i := by
  obtain rfl | rfl | rfl | rfl | rfl | rfl : i = 0 ∨ i = 1 ∨ i = 2 ∨ i = 3 ∨ i = 4 ∨ i = 5 := by omega
  all_goals rfl

theorem pl_refApply {a d : List Power} (ha : a.length ≤ 9223372036854775807) (hd : d.length ≤ 9223372036854775807) : sh_ref_Apply a d = some (applyP a d) := by
  have k1 : ∀ t, sh_ref_Apply_l1 d d.length 0 t = some (d.foldl chA t) := by
    intro t
    rw [sh_ref_Apply_l1]
    refine loop_fold (F := fun s : (List Power) × Int × Int × (A6 Int) => (T_ref_Apply_l1 s.1 s.2.1 s.2.2.1 s.2.2.2).run) d default (fun i t => (d, (d.length : Int), (i : Int), t)) (fun _ _ => True) chA (fun t => t) ?_ ?_ t trivial
    · intro t _
      simp only [T_ref_Apply_l1]; rw [Tr.run_false (by simp), Tr.run_leaf]
    · intro i t hi _
      refine ⟨?_, trivial⟩
      simp only [T_ref_Apply_l1, Int.toNat_natCast]
      rw [Tr.run_true (by simpa using hi), Tr.run_guard ⟨by omega, by rw [sl_len_powers]; omega⟩]
      unfold chA
      by_cases hv : 0 ≤ (d.getD i default).V ∧ (d.getD i default).V < 6
      · rw [if_pos hv, Tr.run_true (by simpa using hv), Tr.run_guard hv, Tr.run_leaf, i64_nat (by omega)]
      · rw [if_neg hv, Tr.run_false (by simp only [Bool.and_eq_false_iff, decide_eq_false_iff_not]; omega), Tr.run_leaf, i64_nat (by omega)]
  have k2 : ∀ f : Nat → Int, sh_ref_Apply_l2 0 ⟨f 0, f 1, f 2, f 3, f 4, f 5⟩ [] = some (setOf f) := by
    intro f
    rw [sh_ref_Apply_l2]
    refine loop_fold (F := fun s : Int × (A6 Int) × (List Power) => (T_ref_Apply_l2 s.1 s.2.1 s.2.2).run) (List.range 6) 0
      (fun i t => ((i : Int), (⟨f 0, f 1, f 2, f 3, f 4, f 5⟩ : A6 Int), t)) (fun i t => t.length ≤ i) (fun t (v : Nat) => t ++ oneP v (f v)) (fun t => t) ?_ ?_ [] (by simp)
    · intro t _
      simp only [T_ref_Apply_l2, List.length_range]; rw [Tr.run_false (by rfl), Tr.run_leaf]
    · intro i t hi ht
      rw [List.length_range] at hi
      rw [range_getD hi]
      have h1 := oneP_len i (f i)
      refine ⟨?_, by rw [List.length_append]; omega⟩
      simp only [T_ref_Apply_l2, A6_get f hi]
      rw [Tr.run_true (by simp; omega), Tr.run_guard (by omega)]
      unfold oneP
      by_cases hp : 0 < f i
      · rw [if_pos hp, Tr.run_true (by simpa using hp), Tr.run_guard (by omega), Tr.run_guard (by simp only [sl_len_powers, List.length_singleton]; omega), Tr.run_leaf, i64_nat (by omega)]
      · rw [if_neg hp, Tr.run_false (by simpa using hp), Tr.run_leaf, i64_nat (by omega), List.append_nil]
  rw [sh_ref_Apply, T_ref_Apply, Tr.run_bind (pl_row ha), Tr.run_bind (k1 _), chA_fold]
  refine (Tr.run_bind (k2 (fun v => lastP d v (findP a v)))).trans ?_
  rw [Tr.run_leaf]; rfl

theorem foldl_snoc {α : Type} : ∀ (l t : List α), l.foldl (fun t a => t ++ [a]) t = t ++ l
  | [], t => by simp
  | a :: l, t => by rw [List.foldl_cons, foldl_snoc l]; simp

theorem pl_refsameS1 {l : List Power} (hl : l.length ≤ 9223372036854775807) : sh_ref_SamePowers l l = some true := by
  obtain ⟨r, e1, e2⟩ := pl_refsameS (a := l) (b := l) hl
  rw [e1, e2.2 rfl]

def twoP (v x y : Int) : List Power := if x ≠ y then [⟨v, x⟩] else []

def diffOf (f g : Nat → Int) : List Power := (List.range 6).foldl (fun t (v : Nat) => t ++ twoP (v : Int) (g v) (f v)) []

theorem setOf_eq (f : Nat → Int) : setOf f = oneP ((0 : Nat) : Int) (f 0) ++ (oneP ((1 : Nat) : Int) (f 1) ++ (oneP ((2 : Nat) : Int) (f 2) ++ (oneP ((3 : Nat) : Int) (f 3) ++ (oneP ((4 : Nat) : Int) (f 4) ++ (oneP ((5 : Nat) : Int) (f 5) ++ []))))) := by
  show ((((([] ++ oneP ((0 : Nat) : Int) (f 0)) ++ oneP ((1 : Nat) : Int) (f 1)) ++ oneP ((2 : Nat) : Int) (f 2)) ++ oneP ((3 : Nat) : Int) (f 3)) ++ oneP ((4 : Nat) : Int) (f 4)) ++ oneP ((5 : Nat) : Int) (f 5) = _
  simp only [List.nil_append, List.append_nil, List.append_assoc]

theorem diffOf_eq (f g : Nat → Int) : diffOf f g = twoP ((0 : Nat) : Int) (g 0) (f 0) ++ (twoP ((1 : Nat) : Int) (g 1) (f 1) ++ (twoP ((2 : Nat) : Int) (g 2) (f 2) ++ (twoP ((3 : Nat) : Int) (g 3) (f 3) ++ (twoP ((4 : Nat) : Int) (g 4) (f 4) ++ (twoP ((5 : Nat) : Int) (g 5) (f 5) ++ []))))) := by
  show ((((([] ++ twoP ((0 : Nat) : Int) (g 0) (f 0)) ++ twoP ((1 : Nat) : Int) (g 1) (f 1)) ++ twoP ((2 : Nat) : Int) (g 2) (f 2)) ++ twoP ((3 : Nat) : Int) (g 3) (f 3)) ++ twoP ((4 : Nat) : Int) (g 4) (f 4)) ++ twoP ((5 : Nat) : Int) (g 5) (f 5) = _
  simp only [List.nil_append, List.append_nil, List.append_assoc]

theorem findP_one {w n v : Int} {l : List Power} : findP (oneP w n ++ l) v = if w = v ∧ 0 < n then n else findP l v := by
  unfold oneP
  by_cases h : 0 < n
  · rw [if_pos h]
    simp only [List.cons_append, List.nil_append, findP, h, and_true]
  · rw [if_neg h, if_neg (by omega)]; rfl

theorem findP_setOf {f : Nat → Int} (hf : ∀ v, 0 ≤ f v) {v : Nat} (hv : v < 6) : findP (setOf f) (v : Int) = f v := by
  have h0 := hf 0; have h1 := hf 1; have h2 := hf 2; have h3 := hf 3; have h4 := hf 4; have h5 := hf 5
  rw [setOf_eq]
  simp only [findP_one, findP]
  obtain rfl | rfl | rfl | rfl | rfl | rfl : v = 0 ∨ v = 1 ∨ v = 2 ∨ v = 3 ∨ v = 4 ∨ v = 5 := by omega
  all_goals (repeat' split) <;> omega

theorem lastP_two {w x y v n : Int} {l : List Power} : lastP (twoP w x y ++ l) v n = lastP l v (if w = v ∧ x ≠ y then x else n) := by
  unfold twoP lastP
  by_cases h : x ≠ y
  · rw [if_pos h]
    simp only [List.cons_append, List.nil_append, List.foldl_cons, h, and_true, ne_eq, not_false_eq_true]
  · rw [if_neg h, if_neg (by omega)]; rfl

theorem lastP_diff {f g : Nat → Int} {v : Nat} (hv : v < 6) : lastP (diffOf f g) (v : Int) (f v) = g v := by
  rw [diffOf_eq]
  simp only [lastP_two]
  simp only [lastP, List.foldl_nil]
  obtain rfl | rfl | rfl | rfl | rfl | rfl : v = 0 ∨ v = 1 ∨ v = 2 ∨ v = 3 ∨ v = 4 ∨ v = 5 := by omega
  all_goals (repeat' split) <;> omega

theorem setOf_congr {f g : Nat → Int} (h : ∀ v, v < 6 → f v = g v) : setOf f = setOf g := by
  rw [setOf_eq, setOf_eq, h 0 (by omega), h 1 (by omega), h 2 (by omega), h 3 (by omega), h 4 (by omega), h 5 (by omega)]

theorem apply_diff {f g : Nat → Int} (hf : ∀ v, 0 ≤ f v) : applyP (setOf f) (diffOf f g) = setOf g := by
  unfold applyP
  exact setOf_congr fun v hv => by rw [findP_setOf hf hv, lastP_diff hv]

theorem twoP_len (w x y : Int) : (twoP w x y).length ≤ 1 := by unfold twoP; split <;> simp

theorem diffOf_len (f g : Nat → Int) : (diffOf f g).length ≤ 6 := by
  have h0 := twoP_len ((0 : Nat) : Int) (g 0) (f 0); have h1 := twoP_len ((1 : Nat) : Int) (g 1) (f 1); have h2 := twoP_len ((2 : Nat) : Int) (g 2) (f 2)
  have h3 := twoP_len ((3 : Nat) : Int) (g 3) (f 3); have h4 := twoP_len ((4 : Nat) : Int) (g 4) (f 4); have h5 := twoP_len ((5 : Nat) : Int) (g 5) (f 5)
  rw [diffOf_eq]
  simp only [List.length_append, List.length_nil]
  omega

theorem pl_Diff {f g : Nat → Int} (hf : ∀ v, 0 ≤ f v) (hg : ∀ v, 0 ≤ g v) : sh_stake_Diff (setOf f) (setOf g) = some (diffOf f g) := by
  have l1 := setOf_len f; have l2 := setOf_len g
  have key : sh_stake_Diff_l1 (setOf f) (setOf g) 0 [] = some (diffOf f g) := by
    rw [sh_stake_Diff_l1]
    refine loop_fold (F := fun s : (List Power) × (List Power) × Int × (List Power) => (T_stake_Diff_l1 s.1 s.2.1 s.2.2.1 s.2.2.2).run) (List.range 6) 0
      (fun i t => (setOf f, setOf g, (i : Int), t)) (fun i t => t.length ≤ i) (fun t (v : Nat) => t ++ twoP v (g v) (f v)) (fun t => t) ?_ ?_ [] (by simp)
    · intro t _
      simp only [T_stake_Diff_l1, List.length_range]; rw [Tr.run_false (by rfl), Tr.run_leaf]
    · intro i t hi ht
      rw [List.length_range] at hi
      rw [range_getD hi]
      have h1 := twoP_len i (g i) (f i)
      refine ⟨?_, by rw [List.length_append]; omega⟩
      simp only [T_stake_Diff_l1]
      rw [Tr.run_true (by simp; omega), Tr.run_bind (pl_find (by omega)), Tr.run_bind (pl_find (by omega)), findP_setOf hf hi, findP_setOf hg hi]
      unfold twoP
      by_cases hp : g i ≠ f i
      · rw [if_pos hp, Tr.run_true (by simpa using hp), Tr.run_guard (by simp only [sl_len_powers, List.length_singleton]; omega), Tr.run_leaf, i64_nat (by omega)]
      · rw [if_neg hp, Tr.run_false (by simpa using hp), Tr.run_leaf, i64_nat (by omega), List.append_nil]
  rw [sh_stake_Diff, T_stake_Diff, Tr.run_bind key, Tr.run_leaf]

/-- The row of numbers that keep.made takes. -/
noncomputable def madeF (l : List Int) (v : Nat) : Int := if v < l.length then (sh_keep_pick (l.getD v 0) 4).getD 0 else 0

theorem madeF_bound (l : List Int) (v : Nat) : 0 ≤ madeF l v ∧ madeF l v < 4 := by
  unfold madeF
  split
  · obtain ⟨x, h1, h2, h3⟩ := pl_pick (a := l.getD v 0) (n := 4) (by omega) (by omega)
    rw [h1]; exact ⟨h2, h3⟩
  · omega

theorem pl_made {l : List Int} : sh_keep_made l = some (setOf (madeF l)) := by
  have key : sh_keep_made_l1 l 0 [] = some (setOf (madeF l)) := by
    have := iter_uptof (F := fun s : (List Int) × Int × (List Power) => (T_keep_made_l1 s.1 s.2.1 s.2.2).run) (min 6 l.length)
      (fun i t => (l, (i : Int), t)) (fun i t => t = (List.range i).foldl (fun t (v : Nat) => t ++ oneP (v : Int) (madeF l v)) [] ∧ t.length ≤ i) (fun _ _ => setOf (madeF l)) (by
        rintro t ⟨ht, _⟩
        simp only [T_keep_made_l1]
        rw [Tr.run_false (by simp only [Bool.and_eq_false_iff, decide_eq_false_iff_not]; omega), Tr.run_leaf, ht]
        have h0 : ∀ k, k ≤ 6 → ∀ m, m ≤ k → (∀ v, m ≤ v → v < 6 → madeF l v = 0) → (List.range m).foldl (fun t (v : Nat) => t ++ oneP (v : Int) (madeF l v)) [] = (List.range k).foldl (fun t (v : Nat) => t ++ oneP (v : Int) (madeF l v)) [] := by
          intro k hk
          induction k with
          | zero => intro m hm _; rw [Nat.le_zero.1 hm]
          | succ k ih =>
            intro m hm hz
            by_cases h : m = k + 1
            · rw [h]
            · rw [ih (by omega) m (by omega) hz, List.range_succ, List.foldl_append, List.foldl_cons, List.foldl_nil, hz k (by omega) (by omega)]
              simp [oneP]
        have h1 := h0 6 (by omega) (min 6 l.length) (by omega) (fun v hv hv6 => by unfold madeF; rw [if_neg (by omega)])
        rw [h1]; rfl) (by
        rintro i t hi ⟨ht, hl⟩
        obtain ⟨x, h1, h2, h3⟩ := pl_pick (a := l.getD i 0) (n := 4) (by omega) (by omega)
        have hm : madeF l i = x := by unfold madeF; rw [if_pos (by omega), h1]; rfl
        have ho := oneP_len i (madeF l i)
        refine .inl ⟨t ++ oneP (i : Int) (madeF l i), ?_, ⟨by rw [List.range_succ, List.foldl_append, ← ht]; rfl, by rw [List.length_append]; omega⟩, rfl⟩
        simp only [T_keep_made_l1, Int.toNat_natCast]
        rw [Tr.run_true (by simp; omega), Tr.run_guard ⟨by omega, by rw [sl_len_ints]; omega⟩, Tr.run_bind h1, hm]
        unfold oneP
        by_cases hp : 0 < x
        · rw [if_pos hp, Tr.run_true (by simpa using hp), Tr.run_guard (by simp only [sl_len_powers, List.length_singleton]; omega), Tr.run_leaf, i64_nat (by omega)]
        · rw [if_neg hp, Tr.run_false (by simpa using hp), Tr.run_leaf, i64_nat (by omega), List.append_nil]) 0 [] (by omega) ⟨rfl, by simp⟩
    rw [sh_keep_made_l1]; exact this
  rw [sh_keep_made, T_keep_made, Tr.run_bind key, Tr.run_leaf]

theorem pl_samePw {l : List Power} (hl : l.length ≤ 9223372036854775807) : sh_keep_samePowers l l = some true := by
  have key : sh_keep_samePowers_l1 l l 0 = some (.inr ()) := by
    rw [sh_keep_samePowers_l1]
    refine (loop_all (F := fun s : (List Power) × (List Power) × Int => (T_keep_samePowers_l1 s.1 s.2.1 s.2.2).run) l default (fun i => (l, l, (i : Int))) (fun _ => true) false () ?_ ?_ ?_).trans ?_
    · simp only [T_keep_samePowers_l1]; rw [Tr.run_false (by simp), Tr.run_leaf]
    · intro i hi _
      simp only [T_keep_samePowers_l1, Int.toNat_natCast]
      rw [Tr.run_true (by simpa using hi), Tr.run_guard ⟨by omega, by rw [sl_len_powers]; omega⟩, Tr.run_guard ⟨by omega, by rw [sl_len_powers]; omega⟩, Tr.run_false (by simp), Tr.run_leaf, i64_nat (by omega)]
    · intro i hi hp; cases hp
    · rw [if_pos (by simp)]
  rw [sh_keep_samePowers, T_keep_samePowers, Tr.run_false (by simp), Tr.run_inr key, Tr.run_leaf]

end Go.Proofs.Ytbpehnghffljiaa.Ab
