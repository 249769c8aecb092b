/-
  ConsumerApplies, with no program in sight.
-/
import Derived.Test.YthhdljniheaeoaaFStake
import Derived.Test.YthhdljniheaeoaaFLine
import Derived.Test.YthhdljniheaeoaaPlCons6
namespace Go.Proofs.Ythhdljniheaeoaa.Ab
open Go Go.RowKit
set_option linter.unusedVariables false
set_option linter.unusedSimpArgs false

/-! Sets made of rows of numbers, and what parts one from the other. -/

def twoP (v x y : Int) : List Power := if x ≠ y then [⟨v, x⟩] else []
def diffOf (f g : Nat → Int) : List Power := (List.range 6).foldl (fun t (v : Nat) => t ++ twoP (v : Int) (g v) (f v)) []

theorem setOf_eq (f : Nat → Int) : setOf f = oneP ((0 : Nat) : Int) (f 0) ++ (oneP ((1 : Nat) : Int) (f 1) ++ (oneP ((2 : Nat) : Int) (f 2) ++ (oneP ((3 : Nat) : Int) (f 3) ++ (oneP ((4 : Nat) : Int) (f 4) ++ (oneP ((5 : Nat) : Int) (f 5) ++ []))))) := by
  show ((((([] ++ oneP ((0 : Nat) : Int) (f 0)) ++ oneP ((1 : Nat) : Int) (f 1)) ++ oneP ((2 : Nat) : Int) (f 2)) ++ oneP ((3 : Nat) : Int) (f 3)) ++ oneP ((4 : Nat) : Int) (f 4)) ++ oneP ((5 : Nat) : Int) (f 5) = _
  simp only [List.nil_append, List.append_nil, List.append_assoc]
theorem diffOf_eq (f g : Nat → Int) : diffOf f g = twoP ((0 : Nat) : Int) (g 0) (f 0) ++ (twoP ((1 : Nat) : Int) (g 1) (f 1) ++ (twoP ((2 : Nat) : Int) (g 2) (f 2) ++ (twoP ((3 : Nat) : Int) (g 3) (f 3) ++ (twoP ((4 : Nat) : Int) (g 4) (f 4) ++ (twoP ((5 : Nat) : Int) (g 5) (f 5) ++ []))))) := by
  show ((((([] ++ twoP ((0 : Nat) : Int) (g 0) (f 0)) ++ twoP ((1 : Nat) : Int) (g 1) (f 1)) ++ twoP ((2 : Nat) : Int) (g 2) (f 2)) ++ twoP ((3 : Nat) : Int) (g 3) (f 3)) ++ twoP ((4 : Nat) : Int) (g 4) (f 4)) ++ twoP ((5 : Nat) : Int) (g 5) (f 5) = _
  simp only [List.nil_append, List.append_nil, List.append_assoc]

theorem findP_one {w n v : Int} {l : List Power} : findP (oneP w n ++ l) v = if w = v ∧ 0 < n then n else findP l v := by
  unfold oneP
  by_cases h : 0 < n
  · rw [if_pos h]
    simp only [List.cons_append, List.nil_append, findP, h, and_true]
  · rw [if_neg h, if_neg (by omega)]; rfl

theorem findP_setOf {f : Nat → Int} (hf : ∀ v, 0 ≤ f v) {v : Nat} (hv : v < 6) : findP (setOf f) (v : Int) = f v := by
  have h0 := hf 0; have h1 := hf 1; have h2 := hf 2; have h3 := hf 3; have h4 := hf 4; have h5 := hf 5
  rw [setOf_eq]
  simp only [findP_one, findP]
  obtain rfl | rfl | rfl | rfl | rfl | rfl : v = 0 ∨ v = 1 ∨ v = 2 ∨ v = 3 ∨ v = 4 ∨ v = 5 := by omega
  all_goals (repeat' split) <;> omega

theorem lastP_two {w x y v n : Int} {l : List Power} : lastP (twoP w x y ++ l) v n = lastP l v (if w = v ∧ x ≠ y then x else n) := by
  unfold twoP lastP
  by_cases h : x ≠ y
  · rw [if_pos h]
    simp only [List.cons_append, List.nil_append, List.foldl_cons, h, and_true, ne_eq, not_false_eq_true]
  · rw [if_neg h, if_neg (by omega)]; rfl

theorem lastP_diff {f g : Nat → Int} {v : Nat} (hv : v < 6) : lastP (diffOf f g) (v : Int) (f v) = g v := by
  rw [diffOf_eq]
  simp only [lastP_two]
  simp only [lastP, List.foldl_nil]
  obtain rfl | rfl | rfl | rfl | rfl | rfl : v = 0 ∨ v = 1 ∨ v = 2 ∨ v = 3 ∨ v = 4 ∨ v = 5 := by omega
  all_goals (repeat' split) <;> omega

theorem setOf_congr {f g : Nat → Int} (h : ∀ v, v < 6 → f v = g v) : setOf f = setOf g := by
  rw [setOf_eq, setOf_eq, h 0 (by omega), h 1 (by omega), h 2 (by omega), h 3 (by omega), h 4 (by omega), h 5 (by omega)]

theorem apply_diff {f g : Nat → Int} (hf : ∀ v, 0 ≤ f v) : applyP (setOf f) (diffOf f g) = setOf g := by
  unfold applyP
  exact setOf_congr fun v hv => by rw [findP_setOf hf hv, lastP_diff hv]

theorem powsOk_mono {m p q : Int} {l : List Power} (h : powsOk m q l = true) (hp : p ≤ q) : powsOk m p l = true := by
  cases l with
  | nil => rfl
  | cons a l =>
    simp only [powsOk, Bool.and_eq_true, decide_eq_true_eq] at h ⊢
    exact ⟨⟨⟨⟨by omega, h.1.1.1.2⟩, h.1.1.2⟩, h.1.2⟩, h.2⟩

theorem powsOk_put {m p w n : Int} {s l : List Power} (hs : s = [] ∨ (s = [⟨w, n⟩] ∧ m ≤ n ∧ n ≤ 1125899906842624)) (hp : p < w) (hw : w ≤ 5) (hl : powsOk m w l = true) : powsOk m p (s ++ l) = true := by
  rcases hs with rfl | ⟨rfl, h1, h2⟩
  · exact powsOk_mono hl (by omega)
  · simp only [List.cons_append, List.nil_append, powsOk, Bool.and_eq_true, decide_eq_true_eq]
    exact ⟨⟨⟨⟨hp, hw⟩, h1⟩, h2⟩, hl⟩

theorem oneP_or {w n : Int} (h : n ≤ 1125899906842624) : oneP w n = [] ∨ (oneP w n = [⟨w, n⟩] ∧ (1 : Int) ≤ n ∧ n ≤ 1125899906842624) := by
  unfold oneP
  by_cases hn : 0 < n
  · rw [if_pos hn]; exact .inr ⟨rfl, by omega, h⟩
  · rw [if_neg hn]; exact .inl rfl
theorem twoP_or {w x y : Int} (h0 : 0 ≤ x) (h : x ≤ 1125899906842624) : twoP w x y = [] ∨ (twoP w x y = [⟨w, x⟩] ∧ (0 : Int) ≤ x ∧ x ≤ 1125899906842624) := by
  unfold twoP
  by_cases hn : x ≠ y
  · rw [if_pos hn]; exact .inr ⟨rfl, by omega, h⟩
  · rw [if_neg hn]; exact .inl rfl

theorem setOf_ok {f : Nat → Int} (h : ∀ v, f v ≤ 1125899906842624) : powsOk 1 (-1) (setOf f) = true := by
  rw [setOf_eq]
  exact powsOk_put (oneP_or (h 0)) (by omega) (by omega) (powsOk_put (oneP_or (h 1)) (by omega) (by omega) (powsOk_put (oneP_or (h 2)) (by omega) (by omega) (powsOk_put (oneP_or (h 3)) (by omega) (by omega)
    (powsOk_put (oneP_or (h 4)) (by omega) (by omega) (powsOk_put (oneP_or (h 5)) (by omega) (by omega) rfl)))))
theorem diffOf_ok {f g : Nat → Int} (h : ∀ v, 0 ≤ g v ∧ g v ≤ 1125899906842624) : powsOk 0 (-1) (diffOf f g) = true := by
  rw [diffOf_eq]
  exact powsOk_put (twoP_or (h 0).1 (h 0).2) (by omega) (by omega) (powsOk_put (twoP_or (h 1).1 (h 1).2) (by omega) (by omega) (powsOk_put (twoP_or (h 2).1 (h 2).2) (by omega) (by omega) (powsOk_put (twoP_or (h 3).1 (h 3).2) (by omega) (by omega)
    (powsOk_put (twoP_or (h 4).1 (h 4).2) (by omega) (by omega) (powsOk_put (twoP_or (h 5).1 (h 5).2) (by omega) (by omega) rfl)))))

theorem twoP_len (w x y : Int) : (twoP w x y).length ≤ 1 := by unfold twoP; split <;> simp
theorem diffOf_len (f g : Nat → Int) : (diffOf f g).length ≤ 6 := by
  have h0 := twoP_len ((0 : Nat) : Int) (g 0) (f 0); have h1 := twoP_len ((1 : Nat) : Int) (g 1) (f 1); have h2 := twoP_len ((2 : Nat) : Int) (g 2) (f 2)
  have h3 := twoP_len ((3 : Nat) : Int) (g 3) (f 3); have h4 := twoP_len ((4 : Nat) : Int) (g 4) (f 4); have h5 := twoP_len ((5 : Nat) : Int) (g 5) (f 5)
  rw [diffOf_eq]
  simp only [List.length_append, List.length_nil]
  omega

theorem pl_Diff {f g : Nat → Int} (hf : ∀ v, 0 ≤ f v) (hg : ∀ v, 0 ≤ g v) : sh_stake_Diff (setOf f) (setOf g) = some (diffOf f g) := by
  have l1 := setOf_len f; have l2 := setOf_len g
  have key : sh_stake_Diff_l1 (setOf f) (setOf g) 0 [] = some (diffOf f g) := by
    rw [sh_stake_Diff_l1]
    refine loop_fold (F := fun s : (List Power) × (List Power) × Int × (List Power) => (T_stake_Diff_l1 s.1 s.2.1 s.2.2.1 s.2.2.2).run) (List.range 6) 0
      (fun i t => (setOf f, setOf g, (i : Int), t)) (fun i t => t.length ≤ i) (fun t (v : Nat) => t ++ twoP v (g v) (f v)) (fun t => t) ?_ ?_ [] (by simp)
    · intro t _
      simp only [T_stake_Diff_l1, List.length_range]; rw [Tr.run_false (by rfl), Tr.run_leaf]
    · intro i t hi ht
      rw [List.length_range] at hi
      rw [range_getD hi]
      have h1 := twoP_len i (g i) (f i)
      refine ⟨?_, by rw [List.length_append]; omega⟩
      simp only [T_stake_Diff_l1]
      rw [Tr.run_true (by simp; omega), Tr.run_bind (pl_find (by omega)), Tr.run_bind (pl_find (by omega)), findP_setOf hf hi, findP_setOf hg hi]
      unfold twoP
      by_cases hp : g i ≠ f i
      · rw [if_pos hp, Tr.run_true (by simpa using hp), Tr.run_guard (by simp only [sl_len_powers, List.length_singleton]; omega), Tr.run_leaf, i64_nat (by omega)]
      · rw [if_neg hp, Tr.run_false (by simpa using hp), Tr.run_leaf, i64_nat (by omega), List.append_nil]
  rw [sh_stake_Diff, T_stake_Diff, Tr.run_bind key, Tr.run_leaf]

/-- The row of numbers that keep.made takes. -/
noncomputable def madeF (l : List Int) (v : Nat) : Int := if v < l.length then (sh_keep_pick (l.getD v 0) 4).getD 0 else 0
theorem madeF_bound (l : List Int) (v : Nat) : 0 ≤ madeF l v ∧ madeF l v < 4 := by
  unfold madeF
  split
  · obtain ⟨x, h1, h2, h3⟩ := pl_pick (a := l.getD v 0) (n := 4) (by omega) (by omega)
    rw [h1]; exact ⟨h2, h3⟩
  · omega

theorem pl_made {l : List Int} : sh_keep_made l = some (setOf (madeF l)) := by
  have key : sh_keep_made_l1 l 0 [] = some (setOf (madeF l)) := by
    have := iter_uptof (F := fun s : (List Int) × Int × (List Power) => (T_keep_made_l1 s.1 s.2.1 s.2.2).run) (min 6 l.length)
      (fun i t => (l, (i : Int), t)) (fun i t => t = (List.range i).foldl (fun t (v : Nat) => t ++ oneP (v : Int) (madeF l v)) [] ∧ t.length ≤ i) (fun _ _ => setOf (madeF l)) (by
        rintro t ⟨ht, _⟩
        simp only [T_keep_made_l1]
        rw [Tr.run_false (by simp only [Bool.and_eq_false_iff, decide_eq_false_iff_not]; omega), Tr.run_leaf, ht]
        have h0 : ∀ k, k ≤ 6 → ∀ m, m ≤ k → (∀ v, m ≤ v → v < 6 → madeF l v = 0) → (List.range m).foldl (fun t (v : Nat) => t ++ oneP (v : Int) (madeF l v)) [] = (List.range k).foldl (fun t (v : Nat) => t ++ oneP (v : Int) (madeF l v)) [] := by
          intro k hk
          induction k with
          | zero => intro m hm _; rw [Nat.le_zero.1 hm]
          | succ k ih =>
            intro m hm hz
            by_cases h : m = k + 1
            · rw [h]
            · rw [ih (by omega) m (by omega) hz, List.range_succ, List.foldl_append, List.foldl_cons, List.foldl_nil, hz k (by omega) (by omega)]
              simp [oneP]
        have h1 := h0 6 (by omega) (min 6 l.length) (by omega) (fun v hv hv6 => by unfold madeF; rw [if_neg (by omega)])
        rw [h1]; rfl) (by
        rintro i t hi ⟨ht, hl⟩
        obtain ⟨x, h1, h2, h3⟩ := pl_pick (a := l.getD i 0) (n := 4) (by omega) (by omega)
        have hm : madeF l i = x := by unfold madeF; rw [if_pos (by omega), h1]; rfl
        have ho := oneP_len i (madeF l i)
        refine .inl ⟨t ++ oneP (i : Int) (madeF l i), ?_, ⟨by rw [List.range_succ, List.foldl_append, ← ht]; rfl, by rw [List.length_append]; omega⟩, rfl⟩
        simp only [T_keep_made_l1, Int.toNat_natCast]
        rw [Tr.run_true (by simp; omega), Tr.run_guard ⟨by omega, by rw [sl_len_ints]; omega⟩, Tr.run_bind h1, hm]
        unfold oneP
        by_cases hp : 0 < x
        · rw [if_pos hp, Tr.run_true (by simpa using hp), Tr.run_guard (by simp only [sl_len_powers, List.length_singleton]; omega), Tr.run_leaf, i64_nat (by omega)]
        · rw [if_neg hp, Tr.run_false (by simpa using hp), Tr.run_leaf, i64_nat (by omega), List.append_nil]) 0 [] (by omega) ⟨rfl, by simp⟩
    rw [sh_keep_made_l1]; exact this
  rw [sh_keep_made, T_keep_made, Tr.run_bind key, Tr.run_leaf]

theorem pl_samePw {l : List Power} (hl : l.length ≤ 9223372036854775807) : sh_keep_samePowers l l = some true := by
  have key : sh_keep_samePowers_l1 l l 0 = some (.inr ()) := by
    rw [sh_keep_samePowers_l1]
    refine (loop_all (F := fun s : (List Power) × (List Power) × Int => (T_keep_samePowers_l1 s.1 s.2.1 s.2.2).run) l default (fun i => (l, l, (i : Int))) (fun _ => true) false () ?_ ?_ ?_).trans ?_
    · simp only [T_keep_samePowers_l1]; rw [Tr.run_false (by simp), Tr.run_leaf]
    · intro i hi _
      simp only [T_keep_samePowers_l1, Int.toNat_natCast]
      rw [Tr.run_true (by simpa using hi), Tr.run_guard ⟨by omega, by rw [sl_len_powers]; omega⟩, Tr.run_guard ⟨by omega, by rw [sl_len_powers]; omega⟩, Tr.run_false (by simp), Tr.run_leaf, i64_nat (by omega)]
    · intro i hi hp; cases hp
    · rw [if_pos (by simp)]
  rw [sh_keep_samePowers, T_keep_samePowers, Tr.run_false (by simp), Tr.run_inr key, Tr.run_leaf]

/-! The chain of changes. -/

/-- A row of numbers each below four. -/
def Row4 (f : Nat → Int) : Prop := ∀ v, 0 ≤ f v ∧ f v < 4
def pkA (fs : Nat → Nat → Int) (i : Nat) : Packet := ⟨1, ((2 + i : Nat) : Int), 0, 0, diffOf (fs i) (fs (i + 1)), []⟩
def gA (fs : Nat → Nat → Int) (now : Int) (k n : Nat) (t h : Int) : Consumer :=
  { beginC (setOf (fs k)) ((1 + k : Nat) : Int) t with Height := h, Ripes := (List.range k).map (rpR now), Pending := (List.range (n - k)).map (fun j => pkA fs (k + j)) }

section
variable {fs : Nat → Nat → Int} (hfs : ∀ i, Row4 (fs i)) {now t h : Int} {k n : Nat}
include hfs

theorem pkA_good {i : Nat} (hi : i < 8) : goodP (pkA fs i) = 0 :=
  goodP_one (by omega) (by omega) (diffOf_ok fun v => ⟨(hfs (i + 1) v).1, by have := (hfs (i + 1) v).2; omega⟩) rfl

omit hfs in
theorem gA_pend (hn : n ≤ 8) {p : Packet} (hp : p ∈ (gA fs now k n t h).Pending) : ∃ i, i < n ∧ p = pkA fs i := by
  obtain ⟨j, hj, rfl⟩ := List.mem_map.1 hp
  exact ⟨k + j, by have := List.mem_range.1 hj; omega, rfl⟩

theorem gA_good (hkn : k ≤ n) (hn : n ≤ 8) (h0 : 0 ≤ now) (h1 : now < 1000) (t0 : 0 ≤ t) (t1 : t ≤ now) (g0 : 0 ≤ h) (g1 : h ≤ 2) : GoodC (gA fs now k n t h) = true := by
  refine goodC_of ⟨rfl, g0, by show h < _; omega, t0, by show t ≤ _; omega, by show (0 : Int) ≤ ((1 + k : Nat) : Int); omega, by show ((1 + k : Nat) : Int) ≤ _; omega⟩ goodL_empty (setOf_ok fun v => by have := (hfs k v).2; omega) ?_ ?_
  · refine List.all_eq_true.2 fun r hr => ?_
    obtain ⟨i, hi, rfl⟩ := List.mem_map.1 hr
    have := List.mem_range.1 hi
    unfold ripeOk rpR
    simp only [Bool.and_eq_true, decide_eq_true_eq]
    omega
  · refine List.all_eq_true.2 fun p hp => ?_
    obtain ⟨i, hi, rfl⟩ := gA_pend hn hp
    unfold pendOk
    rw [pkA_good hfs (by omega)]
    rfl

omit hfs in
theorem gA_fit (hkn : k ≤ n) (hn : n ≤ 8) : FitC 140737488351232 (gA fs now k n t h) := by
  have h6 := setOf_len (fs k)
  refine ⟨by show (setOf (fs k)).length * 16 ≤ _; omega, ?_, ?_, by show 0 * 16 ≤ _; omega, by show 0 * 8 ≤ _; omega, fun p hp => ?_⟩
  · show ((List.range (n - k)).map (fun j => pkA fs (k + j))).length * 80 ≤ _
    rw [List.length_map, List.length_range]; omega
  · show ((List.range k).map (rpR now)).length * 16 ≤ _
    rw [List.length_map, List.length_range]; omega
  · obtain ⟨i, hi, rfl⟩ := gA_pend hn hp
    have := diffOf_len (fs i) (fs (i + 1))
    exact ⟨by show (diffOf (fs i) (fs (i + 1))).length * 16 ≤ _; omega, by show 0 * 8 ≤ _; omega⟩

theorem gA_hear (hkn : k ≤ n) (hn : n < 8) (h0 : 0 ≤ now) (h1 : now < 1000) (t0 : 0 ≤ t) (t1 : t ≤ now) (g0 : 0 ≤ h) (g1 : h ≤ 2) : hearC (gA fs now k n t h) (encP (pkA fs n)) = (gA fs now k (n + 1) t h, 0) := by
  unfold hearC
  rw [if_neg (by rw [gA_good hfs hkn (by omega) h0 h1 t0 t1 g0 g1]; simp), if_neg (by show ¬ (true = false); simp), dec_enc (pkA_good hfs hn), if_neg (by simp), if_neg (by show ¬ ((1 : Int) ≠ 1); omega)]
  unfold gA
  rw [show n + 1 - k = n - k + 1 by omega, List.range_succ, List.map_append]
  simp only [List.map_cons, List.map_nil]
  rw [show k + (n - k) = n by omega]

theorem gA_fold (h0 : 0 ≤ now) (h1 : now < 1000) (c : Consumer) (hset : c.Set = setOf (fs k)) (hid : c.Id = ((1 + k : Nat) : Int)) (hrip : c.Ripes = (List.range k).map (rpR now)) : ∀ m,
    ((List.range m).map (fun j => pkA fs (k + j))).foldl (pendC now) c = { c with Set := setOf (fs (k + m)), Id := ((1 + (k + m) : Nat) : Int), Ripes := (List.range (k + m)).map (rpR now) }
  | 0 => by
    rw [Nat.add_zero, ← hset, ← hid, ← hrip]; rfl
  | m + 1 => by
    rw [List.range_succ, List.map_append, List.foldl_append, gA_fold h0 h1 c hset hid hrip m]
    simp only [List.map_cons, List.map_nil, List.foldl_cons, List.foldl_nil]
    rw [pendC_eq]
    have e1 : applyP (setOf (fs (k + m))) (pkA fs (k + m)).Set = setOf (fs (k + m + 1)) := apply_diff fun v => (hfs (k + m) v).1
    have e2 : IntKind.i64.wrap (now + 15) = now + 15 := i64_in (by omega) (by omega)
    have e3 : (pkA fs (k + m)).Id = ((1 + (k + (m + 1)) : Nat) : Int) := by show ((2 + (k + m) : Nat) : Int) = _; omega
    have e4 : ((List.range (k + m)).map (rpR now)) ++ [⟨(pkA fs (k + m)).Id, now + 15⟩] = (List.range (k + (m + 1))).map (rpR now) := by
      rw [← Nat.add_assoc, List.range_succ, List.map_append]; rfl
    simp only [e1, e2, e4]
    rw [e3]
    rfl

theorem gA_end (hkn : k ≤ n) (hn : n ≤ 8) (h0 : 0 ≤ now) (h1 : now < 1000) (t0 : 0 ≤ t) (t1 : t ≤ now) (g0 : 0 ≤ h) (g1 : h ≤ 2) : endC now (gA fs now k n t h) = (gA fs now n n now (h + 1), 0) := by
  rw [endC_yes (gA_good hfs hkn hn h0 h1 t0 t1 g0 g1) rfl t1 (by omega)]
  have hh : IntKind.i64.wrap ((gA fs now k n t h).Height + 1) = h + 1 := i64_in (by show (-9223372036854775808 : Int) ≤ h + 1; omega) (by show h + 1 ≤ _; omega)
  have e : (gA fs now k n t h).Pending.foldl (pendC now) { gA fs now k n t h with Height := IntKind.i64.wrap ((gA fs now k n t h).Height + 1), Time := now } =
      { gA fs now k n t h with Height := h + 1, Time := now, Set := setOf (fs n), Id := ((1 + n : Nat) : Int), Ripes := (List.range n).map (rpR now) } := by
    have := gA_fold hfs (k := k) h0 h1 { gA fs now k n t h with Height := h + 1, Time := now } rfl rfl rfl (n - k)
    rw [show k + (n - k) = n by omega] at this
    rw [hh]
    exact this
  rw [e, ripenL_none]
  · unfold gA
    rw [Nat.sub_self]
    rfl
  · intro r hr
    obtain ⟨i, hi, rfl⟩ := List.mem_map.1 hr
    show now < now + 15
    omega
end

end Go.Proofs.Ythhdljniheaeoaa.Ab
