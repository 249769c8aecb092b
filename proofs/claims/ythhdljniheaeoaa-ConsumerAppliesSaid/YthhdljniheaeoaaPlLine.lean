/-
  Lines, with no program in sight: what Good, Say, Deliver and Expire give, twice told, is the same.
-/
import Derived.Test.YthhdljniheaeoaaAbPlain
import Derived.Test.YthhdljniheaeoaaFLine
import Derived.Test.YthhdljniheaeoaaAbOpen
namespace Go.Proofs.Ythhdljniheaeoaa.Ab
open Go Go.RowKit
set_option linter.unusedVariables false
set_option linter.unusedSimpArgs false

def GoodL (l : Line) : Prop := l.Said.length = l.Due.length ∧ l.Said.length ≤ 400 ∧ 0 ≤ l.Got ∧ l.Got ≤ l.Said.length ∧ l.Due.any (fun d => decide (d < 0)) = false
instance (l : Line) : Decidable (GoodL l) := inferInstanceAs (Decidable (_ ∧ _))

def negs (l : List Int) (k : Nat) : Bool := (l.drop k).any (fun d => decide (d < 0))
theorem negs_end {l : List Int} {k : Nat} (h : l.length ≤ k) : negs l k = false := by
  unfold negs; rw [List.drop_eq_nil_of_le h]; rfl
theorem negs_step {l : List Int} {k : Nat} (h : k < l.length) : negs l k = (decide (l.getD k 0 < 0) || negs l (k + 1)) := by
  unfold negs
  rw [List.drop_eq_getElem_cons h, List.any_cons, List.getD_eq_getElem?_getD, List.getElem?_eq_getElem h]
  rfl

theorem pl_index {l : List Int} (hl : l.length ≤ 9223372036854775807) : ∃ r, sh_slices_IndexFunc_int_l1 l l.length 0 = some r ∧ (match r with | .inl k => 0 ≤ k ∧ negs l 0 = true | .inr _ => negs l 0 = false) := by
  have := iter_rel (F := fun s : (List Int) × Int × Int => (T_slices_IndexFunc_int_l1 s.1 s.2.1 s.2.2).run)
    (fun s => s.1 = l ∧ s.2.1 = l.length ∧ 0 ≤ s.2.2 ∧ s.2.2 ≤ l.length) (fun s => l.length - s.2.2.toNat)
    (fun s r => match r with | .inl k => 0 ≤ k ∧ negs l s.2.2.toNat = true | .inr _ => negs l s.2.2.toNat = false) ?_ (l, (l.length : Int), 0) ⟨rfl, rfl, by simp, by simp⟩
  · exact this
  · rintro ⟨x0, x1, x2⟩ ⟨h1, h2, h3, h4⟩
    simp only at h1 h2 h3 h4
    subst h1; subst h2
    simp only [T_slices_IndexFunc_int_l1]
    by_cases hc : x2 < x0.length
    · rw [Tr.run_true (by simpa using hc), Tr.run_guard ⟨h3, hc⟩, Tr.run_bind (v := decide (x0.getD x2.toNat 0 < 0)) (by rw [sh_line_Good_1, T_line_Good_1, Tr.run_leaf])]
      have hs := negs_step (l := x0) (k := x2.toNat) (by omega)
      by_cases hd : x0.getD x2.toNat 0 < 0
      · refine .inr ⟨_, by rw [Tr.run_true (by simpa using hd), Tr.run_leaf], ?_⟩
        exact ⟨h3, by rw [hs, decide_eq_true hd]; rfl⟩
      · refine .inl ⟨_, by rw [Tr.run_false (by simpa using hd), Tr.run_leaf], ⟨rfl, rfl, ?_, ?_⟩, ?_, ?_⟩
        · simp only []; rw [i64_in (by omega) (by omega)]; omega
        · simp only []; rw [i64_in (by omega) (by omega)]; omega
        · simp only []; rw [i64_in (by omega) (by omega)]; omega
        · simp only []
          rw [i64_in (by omega) (by omega), show (x2 + 1).toNat = x2.toNat + 1 by omega]
          intro r hr
          rw [hs, decide_eq_false hd, Bool.false_or]
          exact hr
    · refine .inr ⟨_, by rw [Tr.run_false (by simpa using hc), Tr.run_leaf], ?_⟩
      exact negs_end (by omega)

theorem pl_contains {l : List Int} (hl : l.length ≤ 9223372036854775807) : sh_slices_ContainsFunc_int l = some (negs l 0) := by
  obtain ⟨r, h1, h2⟩ := pl_index hl
  rw [sh_slices_ContainsFunc_int, T_slices_ContainsFunc_int]
  cases r with
  | inl k =>
    rw [Tr.run_bind (v := k) (by rw [sh_slices_IndexFunc_int, T_slices_IndexFunc_int, Tr.run_inl h1, Tr.run_leaf]), Tr.run_leaf, h2.2]
    simp [h2.1]
  | inr k =>
    rw [Tr.run_bind (v := -1) (by rw [sh_slices_IndexFunc_int, T_slices_IndexFunc_int, Tr.run_inr h1, Tr.run_leaf]), Tr.run_leaf, h2]
    rfl

theorem good_iff {l : Line} : GoodL l ↔ (l.Said.length = l.Due.length ∧ l.Said.length ≤ 400 ∧ 0 ≤ l.Got ∧ l.Got ≤ l.Said.length) ∧ negs l.Due 0 = false :=
  ⟨fun h => ⟨⟨h.1, h.2.1, h.2.2.1, h.2.2.2.1⟩, h.2.2.2.2⟩, fun h => ⟨h.1.1, h.1.2.1, h.1.2.2.1, h.1.2.2.2, h.2⟩⟩

theorem pl_Good (l : Line) : sh_line_Good l = some (decide (GoodL l)) := by
  rw [sh_line_Good, T_line_Good]
  by_cases hc : l.Said.length = l.Due.length ∧ l.Said.length ≤ 400 ∧ 0 ≤ l.Got ∧ l.Got ≤ l.Said.length
  · obtain ⟨h1, h2, h3, h4⟩ := hc
    rw [Tr.run_false (by simp; omega), Tr.run_bind (pl_contains (by omega)), Tr.run_leaf]
    congr 1
    rw [Bool.eq_iff_iff, decide_eq_true_iff, good_iff, Bool.not_eq_true']
    exact ⟨fun h => ⟨⟨h1, h2, h3, h4⟩, h⟩, fun h => h.2⟩
  · rw [Tr.run_true (by simp; omega), Tr.run_leaf]
    congr 1
    symm
    simp only [decide_eq_false_iff_not]
    intro h
    exact hc ⟨h.1, h.2.1, h.2.2.1, h.2.2.2.1⟩

theorem pl_refGood {l : Line} (hl : l.Due.length ≤ 9223372036854775807) : sh_ref_GoodLine l = some (decide (GoodL l)) := by
  have key : ∃ r, sh_ref_GoodLine_l1 l.Due l.Due.length 0 l = some r ∧ (match r with | .inl b => b = false ∧ negs l.Due 0 = true | .inr x => x = l ∧ negs l.Due 0 = false) := by
    have := iter_rel (F := fun s : (List Int) × Int × Int × Line => (T_ref_GoodLine_l1 s.1 s.2.1 s.2.2.1 s.2.2.2).run)
      (fun s => s.1 = l.Due ∧ s.2.1 = l.Due.length ∧ 0 ≤ s.2.2.1 ∧ s.2.2.1 ≤ l.Due.length ∧ s.2.2.2 = l) (fun s => l.Due.length - s.2.2.1.toNat)
      (fun s r => match r with | .inl b => b = false ∧ negs l.Due s.2.2.1.toNat = true | .inr x => x = l ∧ negs l.Due s.2.2.1.toNat = false) ?_ (l.Due, (l.Due.length : Int), 0, l) ⟨rfl, rfl, by simp, by simp, rfl⟩
    · exact this
    · rintro ⟨x0, x1, x2, x3⟩ ⟨h1, h2, h3, h4, h5⟩
      simp only at h1 h2 h3 h4 h5
      subst h5; subst h1; subst h2
      simp only [T_ref_GoodLine_l1]
      by_cases hc : x2 < x3.Due.length
      · rw [Tr.run_true (by simpa using hc), Tr.run_guard ⟨h3, hc⟩]
        have hs := negs_step (l := x3.Due) (k := x2.toNat) (by omega)
        by_cases hd : x3.Due.getD x2.toNat 0 < 0
        · refine .inr ⟨_, by rw [Tr.run_true (by simpa using hd), Tr.run_leaf], ?_⟩
          exact ⟨rfl, by rw [hs, decide_eq_true hd]; rfl⟩
        · refine .inl ⟨_, by rw [Tr.run_false (by simpa using hd), Tr.run_leaf], ⟨rfl, rfl, ?_, ?_, rfl⟩, ?_, ?_⟩
          · simp only []; rw [i64_in (by omega) (by omega)]; omega
          · simp only []; rw [i64_in (by omega) (by omega)]; omega
          · simp only []; rw [i64_in (by omega) (by omega)]; omega
          · simp only []
            rw [i64_in (by omega) (by omega), show (x2 + 1).toNat = x2.toNat + 1 by omega]
            intro r hr
            rw [hs, decide_eq_false hd, Bool.false_or]
            exact hr
      · refine .inr ⟨_, by rw [Tr.run_false (by simpa using hc), Tr.run_leaf], ?_⟩
        exact ⟨rfl, negs_end (by omega)⟩
  obtain ⟨r, h1, h2⟩ := key
  rw [sh_ref_GoodLine, T_ref_GoodLine]
  cases r with
  | inl b =>
    obtain ⟨rfl, h3⟩ := h2
    rw [Tr.run_inl h1, Tr.run_leaf]
    congr 1
    symm
    simp only [decide_eq_false_iff_not]
    intro h
    have h4 := h.2.2.2.2
    unfold negs at h3
    simp only [List.drop_zero] at h3
    rw [h3] at h4
    cases h4
  | inr x =>
    obtain ⟨rfl, h3⟩ := h2
    rw [Tr.run_inr h1, Tr.run_leaf]
    congr 1
    rw [Bool.eq_iff_iff, decide_eq_true_iff, good_iff]
    simp [h3]
    omega

theorem pl_cloneS {l : List ByteArray} (h : l.length ≤ 400) : sh_slices_Clone_string l = some l := by
  rw [sh_slices_Clone_string, T_slices_Clone_string]
  refine Tr.run_split (fun h0 => ?_) (fun _ => ?_) (.inr trivial)
  · rw [Tr.run_leaf, List.length_eq_zero_iff.1 h0]
  · rw [Tr.run_guard (by simp only [Sl.len, List.length_nil]; omega), Tr.run_leaf]
theorem pl_cloneI {l : List Int} (h : l.length ≤ 400) : sh_slices_Clone_int l = some l := by
  rw [sh_slices_Clone_int, T_slices_Clone_int]
  refine Tr.run_split (fun h0 => ?_) (fun _ => ?_) (.inr trivial)
  · rw [Tr.run_leaf, List.length_eq_zero_iff.1 h0]
  · rw [Tr.run_guard (by simp only [Sl.len, List.length_nil]; omega), Tr.run_leaf]
theorem pl_copy {l : Line} (h1 : l.Said.length * 16 ≤ 140737488351232) (h2 : l.Due.length * 8 ≤ 140737488351232) : sh_ref_CopyLine l = some l := by
  rw [sh_ref_CopyLine, T_ref_CopyLine, Tr.run_guard (by simp only [Sl.len]; omega), Tr.run_guard (by simp only [Sl.len]; omega), Tr.run_leaf]

def sayL (l : Line) (s : ByteArray) (u : Int) : Line × Int :=
  if ¬ GoodL l ∨ u < 0 then (l, 2) else if l.Closed = true then (l, 11) else if 400 ≤ l.Said.length then (l, 6)
  else ({ l with Said := l.Said ++ [s], Due := l.Due ++ [u] }, 0)

theorem pl_Say (l : Line) (s : ByteArray) (u : Int) : sh_line_Say l s u = some (sayL l s u) := by
  rw [sh_line_Say, T_line_Say, Tr.run_bind (pl_Good l)]
  unfold sayL
  by_cases hg : ¬ GoodL l ∨ u < 0
  · rw [Tr.run_true (by simpa using hg), Tr.run_leaf, if_pos hg]
  · rw [Tr.run_false (by simpa using hg), if_neg hg, Tr.run_ite]
    simp only [not_or, Decidable.not_not] at hg
    obtain ⟨⟨h1, h2, h3, h4, h5⟩, h6⟩ := hg
    by_cases hcl : l.Closed = true
    · rw [if_pos hcl, if_pos hcl, Tr.run_leaf]
    · rw [if_neg hcl, if_neg hcl]
      by_cases hn : 400 ≤ l.Said.length
      · rw [Tr.run_true (by simp; omega), Tr.run_leaf, if_pos hn]
      · have e1 := pl_cloneS (l := l.Said) (by omega)
        have e2 := pl_cloneI (l := l.Due) (by omega)
        rw [Tr.run_false (by simp; omega), if_neg hn, e1, e2, Tr.run_guard Option.isSome_some, Tr.run_guard (by simp only [Option.getD_some, Sl.len, List.length_singleton]; omega), Tr.run_guard Option.isSome_some, Tr.run_guard (by simp only [Option.getD_some, Sl.len, List.length_singleton]; omega), Tr.run_leaf]
        rfl

theorem pl_refSay {l : Line} (s : ByteArray) (u : Int) (hl : l.Due.length ≤ 9223372036854775807) : sh_ref_Say l s u = some (sayL l s u) := by
  rw [sh_ref_Say, T_ref_Say, Tr.run_bind (pl_refGood hl)]
  unfold sayL
  by_cases hg : ¬ GoodL l ∨ u < 0
  · rw [Tr.run_true (by simpa using hg), Tr.run_leaf, if_pos hg]
  · rw [Tr.run_false (by simpa using hg), if_neg hg, Tr.run_ite]
    simp only [not_or, Decidable.not_not] at hg
    obtain ⟨⟨h1, h2, h3, h4, h5⟩, h6⟩ := hg
    by_cases hcl : l.Closed = true
    · rw [if_pos hcl, if_pos hcl, Tr.run_leaf]
    · rw [if_neg hcl, if_neg hcl]
      by_cases hn : 400 ≤ l.Said.length
      · rw [Tr.run_true (by simp; omega), Tr.run_leaf, if_pos hn]
      · rw [Tr.run_false (by simp; omega), if_neg hn, Tr.run_bind (pl_copy (l := l) (by omega) (by omega)), Tr.run_guard (by simp only [Sl.len, List.length_singleton]; omega), Tr.run_guard (by simp only [Sl.len, List.length_singleton]; omega), Tr.run_leaf]

theorem pl_sameN {l : List Int} (hl : l.length ≤ 9223372036854775807) : sh_ref_SameNumbers l l = some true := by
  have key : sh_ref_SameNumbers_l1 l l l.length 0 = some (.inr ()) := by
    refine iter_fun (F := fun s : (List Int) × (List Int) × Int × Int => (T_ref_SameNumbers_l1 s.1 s.2.1 s.2.2.1 s.2.2.2).run)
      (fun s => s.1 = l ∧ s.2.1 = l ∧ s.2.2.1 = l.length ∧ 0 ≤ s.2.2.2 ∧ s.2.2.2 ≤ l.length) (fun s => l.length - s.2.2.2.toNat) (fun _ => .inr ()) ?_ (l, l, (l.length : Int), 0) ⟨rfl, rfl, rfl, by simp, by simp⟩
    rintro ⟨x0, x1, x2, x3⟩ ⟨h1, h2, h3, h4, h5⟩
    simp only at h1 h2 h3 h4 h5
    subst h2; subst h1; subst h3
    simp only [T_ref_SameNumbers_l1]
    by_cases hc : x3 < x0.length
    · refine .inl ⟨_, by rw [Tr.run_true (by simpa using hc), Tr.run_guard ⟨h4, hc⟩, Tr.run_guard ⟨h4, hc⟩, Tr.run_false (by simp), Tr.run_leaf], ⟨rfl, rfl, rfl, ?_, ?_⟩, ?_, trivial⟩
      all_goals (simp only []; rw [i64_in (by omega) (by omega)]; omega)
    · exact .inr (by rw [Tr.run_false (by simpa using hc), Tr.run_leaf])
  rw [sh_ref_SameNumbers, T_ref_SameNumbers, Tr.run_false (by simp), Tr.run_inr key, Tr.run_leaf]

theorem pl_sameL {l : Line} (h1 : l.Said.length ≤ 9223372036854775807) (h2 : l.Due.length ≤ 9223372036854775807) : sh_ref_SameLine l l = some true := by
  have key : sh_ref_SameLine_l1 l.Said.length 0 l l = some (.inr (l, l)) := by
    refine iter_fun (F := fun s : Int × Int × Line × Line => (T_ref_SameLine_l1 s.1 s.2.1 s.2.2.1 s.2.2.2).run)
      (fun s => s.1 = l.Said.length ∧ 0 ≤ s.2.1 ∧ s.2.1 ≤ l.Said.length ∧ s.2.2.1 = l ∧ s.2.2.2 = l) (fun s => l.Said.length - s.2.1.toNat) (fun _ => .inr (l, l)) ?_ ((l.Said.length : Int), 0, l, l) ⟨rfl, by simp, by simp, rfl, rfl⟩
    rintro ⟨x0, x1, x2, x3⟩ ⟨e1, e2, e3, e4, e5⟩
    simp only at e1 e2 e3 e4 e5
    subst e4; subst e5; subst e1
    simp only [T_ref_SameLine_l1]
    by_cases hc : x1 < x3.Said.length
    · refine .inl ⟨_, by rw [Tr.run_true (by simpa using hc), Tr.run_guard ⟨e2, hc⟩, Tr.run_guard ⟨e2, hc⟩, Tr.run_false (by simp), Tr.run_leaf], ⟨rfl, ?_, ?_, rfl, rfl⟩, ?_, trivial⟩
      all_goals (simp only []; rw [i64_in (by omega) (by omega)]; omega)
    · exact .inr (by rw [Tr.run_false (by simpa using hc), Tr.run_leaf])
  rw [sh_ref_SameLine, T_ref_SameLine, Tr.run_false (by simp), Tr.run_inr key, Tr.run_bind (pl_sameN h2), Tr.run_leaf]

theorem say_len {l : Line} {s : ByteArray} {u : Int} (h1 : l.Said.length * 16 ≤ 140737488351232) (h2 : l.Due.length * 8 ≤ 140737488351232) : (sayL l s u).1.Said.length ≤ 9223372036854775807 ∧ (sayL l s u).1.Due.length ≤ 9223372036854775807 := by
  unfold sayL
  split
  · exact ⟨by simp only []; omega, by simp only []; omega⟩
  · split
    · exact ⟨by simp only []; omega, by simp only []; omega⟩
    · split
      · exact ⟨by simp only []; omega, by simp only []; omega⟩
      · simp only [List.length_append, List.length_singleton]; exact ⟨by omega, by omega⟩

def deliverL (l : Line) (k : Int) (s : ByteArray) (said time : Int) : Line × Int :=
  if ¬ GoodL l then (l, 2) else if l.Closed = true then (l, 11) else if k ≠ l.Got + 1 then (l, 10)
  else if said < k ∨ (l.Said.length : Int) < k ∨ (l.Said.getD l.Got.toNat .empty).toList ≠ s.toList then (l, 9)
  else if l.Due.getD l.Got.toNat 0 ≤ time then (l, 12) else ({ l with Got := k }, 0)

theorem list_beq {a b : List UInt8} : ((a == b) = true) ↔ a = b := by simp

def expireL (l : Line) (k time got : Int) : Line × Int :=
  if ¬ GoodL l then (l, 2) else if l.Closed = true then (l, 11) else if k < 1 ∨ (l.Said.length : Int) < k then (l, 4)
  else if k ≤ got then (l, 5) else if time < l.Due.getD (k - 1).toNat 0 then (l, 13) else ({ l with Closed := true }, 0)

theorem deliver_len (l : Line) (k : Int) (s : ByteArray) (said time : Int) : (deliverL l k s said time).1.Said = l.Said ∧ (deliverL l k s said time).1.Due = l.Due := by
  unfold deliverL; repeat' split
  all_goals exact ⟨rfl, rfl⟩
theorem expire_len (l : Line) (k time got : Int) : (expireL l k time got).1.Said = l.Said ∧ (expireL l k time got).1.Due = l.Due := by
  unfold expireL; repeat' split
  all_goals exact ⟨rfl, rfl⟩

theorem deliver_ok {l : Line} {k : Int} {s : ByteArray} {said time : Int} (h : (deliverL l k s said time).2 = 0) :
    GoodL l ∧ ¬ l.Closed = true ∧ k = l.Got + 1 ∧ k ≤ l.Said.length ∧ (l.Said.getD l.Got.toNat .empty).toList = s.toList ∧ time < l.Due.getD l.Got.toNat 0 ∧ deliverL l k s said time = ({ l with Got := k }, 0) := by
  unfold deliverL at h ⊢
  by_cases h1 : ¬ GoodL l
  · rw [if_pos h1] at h; cases h
  rw [if_neg h1] at h ⊢
  by_cases h2 : l.Closed = true
  · rw [if_pos h2] at h; cases h
  rw [if_neg h2] at h ⊢
  by_cases h3 : k ≠ l.Got + 1
  · rw [if_pos h3] at h; cases h
  rw [if_neg h3] at h ⊢
  by_cases h4 : said < k ∨ (l.Said.length : Int) < k ∨ (l.Said.getD l.Got.toNat .empty).toList ≠ s.toList
  · rw [if_pos h4] at h; cases h
  rw [if_neg h4] at h ⊢
  by_cases h5 : l.Due.getD l.Got.toNat 0 ≤ time
  · rw [if_pos h5] at h; cases h
  rw [if_neg h5]
  simp only [not_or, Decidable.not_not] at h1 h3 h4
  exact ⟨h1, h2, h3, by omega, h4.2.2, by omega, rfl⟩

theorem expire_ok {l : Line} {k time got : Int} (h : (expireL l k time got).2 = 0) :
    GoodL l ∧ ¬ l.Closed = true ∧ 1 ≤ k ∧ k ≤ l.Said.length ∧ got < k ∧ l.Due.getD (k - 1).toNat 0 ≤ time ∧ expireL l k time got = ({ l with Closed := true }, 0) := by
  unfold expireL at h ⊢
  by_cases h1 : ¬ GoodL l
  · rw [if_pos h1] at h; cases h
  rw [if_neg h1] at h ⊢
  by_cases h2 : l.Closed = true
  · rw [if_pos h2] at h; cases h
  rw [if_neg h2] at h ⊢
  by_cases h3 : k < 1 ∨ (l.Said.length : Int) < k
  · rw [if_pos h3] at h; cases h
  rw [if_neg h3] at h ⊢
  by_cases h4 : k ≤ got
  · rw [if_pos h4] at h; cases h
  rw [if_neg h4] at h ⊢
  by_cases h5 : time < l.Due.getD (k - 1).toNat 0
  · rw [if_pos h5] at h; cases h
  rw [if_neg h5]
  simp only [Decidable.not_not] at h1
  exact ⟨h1, h2, by omega, by omega, by omega, by omega, rfl⟩

theorem deliver_not {l : Line} {k : Int} {s : ByteArray} {said time : Int} (h : (deliverL l k s said time).2 ≠ 0) : (deliverL l k s said time).1 = l := by
  unfold deliverL at h ⊢
  by_cases h1 : ¬ GoodL l
  · rw [if_pos h1]
  rw [if_neg h1] at h ⊢
  by_cases h2 : l.Closed = true
  · rw [if_pos h2]
  rw [if_neg h2] at h ⊢
  by_cases h3 : k ≠ l.Got + 1
  · rw [if_pos h3]
  rw [if_neg h3] at h ⊢
  by_cases h4 : said < k ∨ (l.Said.length : Int) < k ∨ (l.Said.getD l.Got.toNat .empty).toList ≠ s.toList
  · rw [if_pos h4]
  rw [if_neg h4] at h ⊢
  by_cases h5 : l.Due.getD l.Got.toNat 0 ≤ time
  · rw [if_pos h5]
  rw [if_neg h5] at h
  exact absurd rfl h

theorem expire_not {l : Line} {k time got : Int} (h : (expireL l k time got).2 ≠ 0) : (expireL l k time got).1 = l := by
  unfold expireL at h ⊢
  by_cases h1 : ¬ GoodL l
  · rw [if_pos h1]
  rw [if_neg h1] at h ⊢
  by_cases h2 : l.Closed = true
  · rw [if_pos h2]
  rw [if_neg h2] at h ⊢
  by_cases h3 : k < 1 ∨ (l.Said.length : Int) < k
  · rw [if_pos h3]
  rw [if_neg h3] at h ⊢
  by_cases h4 : k ≤ got
  · rw [if_pos h4]
  rw [if_neg h4] at h ⊢
  by_cases h5 : time < l.Due.getD (k - 1).toNat 0
  · rw [if_pos h5]
  rw [if_neg h5] at h
  exact absurd rfl h

theorem pl_pick {a n : Int} (h0 : 0 < n) (h1 : n ≤ 1000) : ∃ v, sh_keep_pick a n = some v ∧ 0 ≤ v ∧ v < n := by
  rw [sh_keep_pick, T_keep_pick, Tr.run_guard (by omega)]
  have k1 : a.tmod n < n := Int.tmod_lt_of_pos a h0
  have k2 : -n < a.tmod n := Int.lt_tmod_of_pos a h0
  by_cases h : a.tmod n < 0
  · refine ⟨_, by rw [Tr.run_true (by simpa using h), Tr.run_leaf], ?_⟩
    rw [i64_in (by omega) (by omega)]; omega
  · exact ⟨_, by rw [Tr.run_false (by simpa using h), Tr.run_leaf], by omega, k1⟩

/-- What came is what was said, as far as it came. -/
def Came (l : Line) (c : List ByteArray) : Prop := (c.length : Int) = l.Got ∧ ∀ j, j < c.length → (c.getD j .empty).toList = (l.Said.getD j .empty).toList

theorem say_good {l : Line} {s : ByteArray} {u : Int} {c : List ByteArray} (hg : GoodL l) (hc : Came l c) : GoodL (sayL l s u).1 ∧ Came (sayL l s u).1 c ∧ (sayL l s u).1.Got = l.Got ∧ (l.Closed = true → (sayL l s u).1.Closed = true ∧ (sayL l s u).2 ≠ 0) := by
  unfold sayL
  by_cases h1 : ¬ GoodL l ∨ u < 0
  · rw [if_pos h1]; exact ⟨hg, hc, rfl, fun h => ⟨h, by simp⟩⟩
  rw [if_neg h1]
  by_cases h2 : l.Closed = true
  · rw [if_pos h2]; exact ⟨hg, hc, rfl, fun h => ⟨h, by simp⟩⟩
  rw [if_neg h2]
  by_cases h3 : 400 ≤ l.Said.length
  · rw [if_pos h3]; exact ⟨hg, hc, rfl, fun h => ⟨h, by simp⟩⟩
  rw [if_neg h3]
  obtain ⟨g1, g2, g3, g4, g5⟩ := hg
  simp only [not_or, Decidable.not_not] at h1
  refine ⟨⟨?_, ?_, ?_, ?_, ?_⟩, ⟨hc.1, fun j hj => ?_⟩, rfl, fun h => absurd h h2⟩
  · simp only [List.length_append, List.length_singleton]; omega
  · simp only [List.length_append, List.length_singleton]; omega
  · exact g3
  · simp only [List.length_append, List.length_singleton]; omega
  · simp only [List.any_append, g5, Bool.false_or, List.any_cons, List.any_nil, Bool.or_false, decide_eq_false_iff_not]; exact h1.2
  · have h0 := hc.1
    rw [hc.2 j hj]
    simp only [List.getD_eq_getElem?_getD]
    rw [List.getElem?_append_left (by omega)]

end Go.Proofs.Ythhdljniheaeoaa.Ab
