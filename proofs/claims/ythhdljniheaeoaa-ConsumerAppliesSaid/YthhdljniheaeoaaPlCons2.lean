/-
  Consumers, with no program in sight: sets and changes, copies, what is said, the end of a block.
-/
import Derived.Test.YthhdljniheaeoaaFStake
import Derived.Test.YthhdljniheaeoaaFCons
import Derived.Test.YthhdljniheaeoaaFCodec
import Derived.Test.YthhdljniheaeoaaPlCons
namespace Go.Proofs.Ythhdljniheaeoaa.Ab
open Go Go.RowKit
set_option linter.unusedVariables false
set_option linter.unusedSimpArgs false

/-! Sets and changes. -/

def findP : List Power → Int → Int
  | [], _ => 0
  | p :: l, v => if p.V = v then p.N else findP l v
def lastP (d : List Power) (v n : Int) : Int := d.foldl (fun n p => if p.V = v then p.N else n) n
def oneP (v n : Int) : List Power := if 0 < n then [⟨v, n⟩] else []
def setOf (f : Nat → Int) : List Power := (List.range 6).foldl (fun t (v : Nat) => t ++ oneP (v : Int) (f v)) []
def applyP (a d : List Power) : List Power := setOf (fun v => lastP d v (findP a v))

theorem oneP_len (v n : Int) : (oneP v n).length ≤ 1 := by unfold oneP; split <;> simp
theorem setOf_len (f : Nat → Int) : (setOf f).length ≤ 6 := by
  have h : ∀ (l : List Nat) (t : List Power), (l.foldl (fun t (v : Nat) => t ++ oneP v (f v)) t).length ≤ t.length + l.length := by
    intro l
    induction l with
    | nil => intro t; simp
    | cons a l ih =>
      intro t
      have h1 := ih (t ++ oneP a (f a))
      have h2 := oneP_len a (f a)
      simp only [List.foldl_cons, List.length_append, List.length_cons] at h1 ⊢
      omega
  have := h (List.range 6) []
  simpa [setOf] using this

theorem pl_find {l : List Power} {v : Int} (hl : l.length ≤ 9223372036854775807) : sh_stake_find l v = some (findP l v) := by
  obtain ⟨r, h1, h2⟩ := iter_upto (F := fun s : Int × (List Power) × Int × Int => (T_stake_find_l1 s.1 s.2.1 s.2.2.1 s.2.2.2).run) l.length
    (fun i (_ : Unit) => (v, l, (l.length : Int), (i : Int))) (fun i _ => True) (fun i _ r => match r with | .inl x => findP (l.drop i) v = x | .inr _ => findP (l.drop i) v = 0) (by
      intro t _
      refine ⟨.inr (), ?_, ?_⟩
      · simp only [T_stake_find_l1]; rw [Tr.run_false (by simp), Tr.run_leaf]
      · rw [List.drop_length]; rfl) (by
      intro i t hi _
      have hs := drop_step (l := l) (k := i) hi default
      simp only [T_stake_find_l1, Int.toNat_natCast]
      rw [Tr.run_true (by simpa using hi), Tr.run_guard ⟨by omega, by rw [sl_len_powers]; omega⟩, hs]
      by_cases hv : (l.getD i default).V = v
      · exact .inr ⟨.inl (l.getD i default).N, by rw [Tr.run_true (by rw [hv]; simp), Tr.run_leaf], by simp only [findP]; rw [if_pos hv]⟩
      · refine .inl ⟨(), by rw [Tr.run_false (by simpa using hv), Tr.run_leaf, i64_nat (by omega)], trivial, ?_⟩
        intro r hr
        simp only [findP]
        rw [if_neg hv]
        exact hr) 0 () (by omega) trivial
  have h1 : sh_stake_find_l1 v l l.length 0 = some r := h1
  simp only [List.drop_zero] at h2
  rw [sh_stake_find, T_stake_find]
  cases r with
  | inl x => rw [Tr.run_inl h1, Tr.run_leaf, ← h2]
  | inr x => rw [Tr.run_inr h1, Tr.run_leaf, h2]

theorem pl_power {l : List Power} {v : Int} (hl : l.length ≤ 9223372036854775807) : sh_consumer_power l v = some (findP l v) := by
  obtain ⟨r, h1, h2⟩ := iter_upto (F := fun s : Int × (List Power) × Int × Int => (T_consumer_power_l1 s.1 s.2.1 s.2.2.1 s.2.2.2).run) l.length
    (fun i (_ : Unit) => (v, l, (l.length : Int), (i : Int))) (fun i _ => True) (fun i _ r => match r with | .inl x => findP (l.drop i) v = x | .inr _ => findP (l.drop i) v = 0) (by
      intro t _
      refine ⟨.inr (), ?_, ?_⟩
      · simp only [T_consumer_power_l1]; rw [Tr.run_false (by simp), Tr.run_leaf]
      · rw [List.drop_length]; rfl) (by
      intro i t hi _
      have hs := drop_step (l := l) (k := i) hi default
      simp only [T_consumer_power_l1, Int.toNat_natCast]
      rw [Tr.run_true (by simpa using hi), Tr.run_guard ⟨by omega, by rw [sl_len_powers]; omega⟩, hs]
      by_cases hv : (l.getD i default).V = v
      · exact .inr ⟨.inl (l.getD i default).N, by rw [Tr.run_true (by rw [hv]; simp), Tr.run_leaf], by simp only [findP]; rw [if_pos hv]⟩
      · refine .inl ⟨(), by rw [Tr.run_false (by simpa using hv), Tr.run_leaf, i64_nat (by omega)], trivial, ?_⟩
        intro r hr
        simp only [findP]
        rw [if_neg hv]
        exact hr) 0 () (by omega) trivial
  have h1 : sh_consumer_power_l1 v l l.length 0 = some r := h1
  simp only [List.drop_zero] at h2
  rw [sh_consumer_power, T_consumer_power]
  cases r with
  | inl x => rw [Tr.run_inl h1, Tr.run_leaf, ← h2]
  | inr x => rw [Tr.run_inr h1, Tr.run_leaf, h2]

theorem apply_l1 {a d acc : List Power} {v n w : Int} (hl : d.length ≤ 9223372036854775807) :
    sh_stake_Apply_l1 a d v n w d d.length 0 acc = some (a, d, v, lastP d v n, w, acc) := by
  rw [sh_stake_Apply_l1]
  refine loop_fold (F := fun s : (List Power) × (List Power) × Int × Int × Int × (List Power) × Int × Int × (List Power) => (T_stake_Apply_l1 s.1 s.2.1 s.2.2.1 s.2.2.2.1 s.2.2.2.2.1 s.2.2.2.2.2.1 s.2.2.2.2.2.2.1 s.2.2.2.2.2.2.2.1 s.2.2.2.2.2.2.2.2).run) d default
    (fun i n => (a, d, v, n, w, d, (d.length : Int), (i : Int), acc)) (fun _ _ => True) (fun n p => if p.V = v then p.N else n) (fun n => (a, d, v, n, w, acc)) ?_ ?_ n trivial
  · intro t _
    simp only [T_stake_Apply_l1]; rw [Tr.run_false (by simp), Tr.run_leaf]
  · intro i t hi _
    refine ⟨?_, trivial⟩
    simp only [T_stake_Apply_l1, Int.toNat_natCast]
    rw [Tr.run_true (by simpa using hi), Tr.run_guard ⟨by omega, by rw [sl_len_powers]; omega⟩]
    by_cases hv : (d.getD i default).V = v
    · rw [if_pos hv, Tr.run_true (by rw [hv]; simp), Tr.run_leaf, i64_nat (by omega)]
    · rw [if_neg hv, Tr.run_false (by simpa using hv), Tr.run_leaf, i64_nat (by omega)]

theorem range_getD {i n : Nat} (h : i < n) : (List.range n).getD i 0 = i := by
  rw [List.getD_eq_getElem?_getD, List.getElem?_range h]; rfl

theorem pl_Apply {a d : List Power} (ha : a.length ≤ 9223372036854775807) (hd : d.length ≤ 9223372036854775807) : sh_stake_Apply a d = some (applyP a d) := by
  have key : sh_stake_Apply_l2 a d 0 [] = some (applyP a d) := by
    rw [sh_stake_Apply_l2]
    refine loop_fold (F := fun s : (List Power) × (List Power) × Int × (List Power) => (T_stake_Apply_l2 s.1 s.2.1 s.2.2.1 s.2.2.2).run) (List.range 6) 0
      (fun i t => (a, d, (i : Int), t)) (fun i t => t.length ≤ i) (fun t (v : Nat) => t ++ oneP v (lastP d v (findP a v))) (fun t => t) ?_ ?_ [] (by simp)
    · intro t _
      simp only [T_stake_Apply_l2, List.length_range]; rw [Tr.run_false (by rfl), Tr.run_leaf]
    · intro i t hi ht
      rw [List.length_range] at hi
      rw [range_getD hi]
      have h1 := oneP_len i (lastP d i (findP a i))
      refine ⟨?_, by rw [List.length_append]; omega⟩
      simp only [T_stake_Apply_l2]
      rw [Tr.run_true (by simp; omega), Tr.run_bind (pl_find ha), Tr.run_bind (apply_l1 hd)]
      simp only []
      unfold oneP
      by_cases hp : 0 < lastP d i (findP a i)
      · rw [if_pos hp, Tr.run_true (by simpa using hp), Tr.run_guard (by simp only [sl_len_powers, List.length_singleton]; omega), Tr.run_leaf, i64_nat (by omega)]
      · rw [if_neg hp, Tr.run_false (by simpa using hp), Tr.run_leaf, i64_nat (by omega), List.append_nil]
  rw [sh_stake_Apply, T_stake_Apply, Tr.run_bind key, Tr.run_leaf]

def rowA (a : List Power) : A6 Int := ⟨findP a 0, findP a 1, findP a 2, findP a 3, findP a 4, findP a 5⟩
theorem rowA_cons_in {p : Power} {l : List Power} : (rowA l).set p.V p.N = rowA (p :: l) := rfl
theorem rowA_cons_out {p : Power} {l : List Power} (h : ¬ (0 ≤ p.V ∧ p.V < 6)) : rowA (p :: l) = rowA l := by
  unfold rowA
  simp only [findP]
  rw [if_neg (by omega), if_neg (by omega), if_neg (by omega), if_neg (by omega), if_neg (by omega), if_neg (by omega)]

theorem pl_row {a : List Power} (ha : a.length ≤ 9223372036854775807) : sh_ref_row a = some (rowA a) := by
  have key : sh_ref_row_l1 a ((a.length : Int) - 1) (⟨0, 0, 0, 0, 0, 0⟩ : (A6 Int)) (⟨0, 0, 0, 0, 0, 0⟩ : (A6 Int)) = some (⟨0, 0, 0, 0, 0, 0⟩, rowA a) := by
    have := iter_uptof (F := fun s : (List Power) × Int × (A6 Int) × (A6 Int) => (T_ref_row_l1 s.1 s.2.1 s.2.2.1 s.2.2.2).run) a.length
      (fun i (t : A6 Int) => (a, (a.length : Int) - 1 - i, (⟨0, 0, 0, 0, 0, 0⟩ : (A6 Int)), t)) (fun i t => t = rowA (a.drop (a.length - i))) (fun _ _ => ((⟨0, 0, 0, 0, 0, 0⟩ : (A6 Int)), rowA a)) (by
        intro t ht
        simp only [T_ref_row_l1]
        rw [Tr.run_false (by simp; omega), Tr.run_leaf, ht, Nat.sub_self, List.drop_zero]) (by
        intro i t hi ht
        have hs := drop_step (l := a) (k := a.length - (i + 1)) (by omega) default
        rw [show a.length - (i + 1) + 1 = a.length - i by omega] at hs
        have hn : ((a.length : Int) - 1 - (i : Int)).toNat = a.length - (i + 1) := by omega
        have hw : IntKind.i64.wrap ((a.length : Int) - 1 - (i : Int) - 1) = (a.length : Int) - 1 - ((i + 1 : Nat) : Int) := by rw [i64_in (by omega) (by omega)]; omega
        simp only [T_ref_row_l1, hn, hw]
        rw [Tr.run_true (by simp; omega), Tr.run_guard ⟨by omega, by rw [sl_len_powers]; omega⟩, Tr.run_guard (by intro _; exact ⟨⟨by omega, by rw [sl_len_powers]; omega⟩, trivial⟩)]
        by_cases hv : 0 ≤ (a.getD (a.length - (i + 1)) default).V ∧ (a.getD (a.length - (i + 1)) default).V < 6
        · refine .inl ⟨rowA (a.drop (a.length - (i + 1))), ?_, rfl, by trivial⟩
          rw [Tr.run_true (by simpa using hv), Tr.run_guard ⟨by omega, by rw [sl_len_powers]; omega⟩, Tr.run_guard ⟨by omega, by rw [sl_len_powers]; omega⟩, Tr.run_guard hv, Tr.run_leaf, ht, hs]
          rfl
        · refine .inl ⟨rowA (a.drop (a.length - (i + 1))), ?_, rfl, by trivial⟩
          rw [Tr.run_false (by simp only [Bool.and_eq_false_iff, decide_eq_false_iff_not]; omega), Tr.run_leaf, ht, hs, rowA_cons_out hv]) 0 ⟨0, 0, 0, 0, 0, 0⟩ (by omega) (by rw [Nat.sub_zero, List.drop_length]; rfl)
    simp only [Int.sub_zero, Int.natCast_zero, Int.ofNat_zero, Int.ofNat_eq_natCast] at this
    rw [sh_ref_row_l1]
    exact this
  rw [sh_ref_row, T_ref_row, i64_in (by omega) (by omega), Tr.run_bind key, Tr.run_leaf]

def chA (t : A6 Int) (p : Power) : A6 Int := if 0 ≤ p.V ∧ p.V < 6 then t.set p.V p.N else t
theorem chA_fold : ∀ (d : List Power) (t : A6 Int), d.foldl chA t = ⟨lastP d 0 t.x0, lastP d 1 t.x1, lastP d 2 t.x2, lastP d 3 t.x3, lastP d 4 t.x4, lastP d 5 t.x5⟩
  | [], t => rfl
  | p :: d, t => by
    rw [List.foldl_cons, chA_fold d]
    unfold chA
    by_cases h : 0 ≤ p.V ∧ p.V < 6
    · rw [if_pos h]; rfl
    · rw [if_neg h]
      simp only [lastP, List.foldl_cons]
      rw [if_neg (by omega), if_neg (by omega), if_neg (by omega), if_neg (by omega), if_neg (by omega), if_neg (by omega)]

theorem A6_get (f : Nat → Int) {i : Nat} (h : i < 6) : (⟨f 0, f 1, f 2, f 3, f 4, f 5⟩ : A6 Int).get (i : Int) = f i := by
  obtain rfl | rfl | rfl | rfl | rfl | rfl : i = 0 ∨ i = 1 ∨ i = 2 ∨ i = 3 ∨ i = 4 ∨ i = 5 := by omega
  all_goals rfl

theorem pl_refApply {a d : List Power} (ha : a.length ≤ 9223372036854775807) (hd : d.length ≤ 9223372036854775807) : sh_ref_Apply a d = some (applyP a d) := by
  have k1 : ∀ t, sh_ref_Apply_l1 d d.length 0 t = some (d.foldl chA t) := by
    intro t
    rw [sh_ref_Apply_l1]
    refine loop_fold (F := fun s : (List Power) × Int × Int × (A6 Int) => (T_ref_Apply_l1 s.1 s.2.1 s.2.2.1 s.2.2.2).run) d default (fun i t => (d, (d.length : Int), (i : Int), t)) (fun _ _ => True) chA (fun t => t) ?_ ?_ t trivial
    · intro t _
      simp only [T_ref_Apply_l1]; rw [Tr.run_false (by simp), Tr.run_leaf]
    · intro i t hi _
      refine ⟨?_, trivial⟩
      simp only [T_ref_Apply_l1, Int.toNat_natCast]
      rw [Tr.run_true (by simpa using hi), Tr.run_guard ⟨by omega, by rw [sl_len_powers]; omega⟩]
      unfold chA
      by_cases hv : 0 ≤ (d.getD i default).V ∧ (d.getD i default).V < 6
      · rw [if_pos hv, Tr.run_true (by simpa using hv), Tr.run_guard hv, Tr.run_leaf, i64_nat (by omega)]
      · rw [if_neg hv, Tr.run_false (by simp only [Bool.and_eq_false_iff, decide_eq_false_iff_not]; omega), Tr.run_leaf, i64_nat (by omega)]
  have k2 : ∀ f : Nat → Int, sh_ref_Apply_l2 0 ⟨f 0, f 1, f 2, f 3, f 4, f 5⟩ [] = some (setOf f) := by
    intro f
    rw [sh_ref_Apply_l2]
    refine loop_fold (F := fun s : Int × (A6 Int) × (List Power) => (T_ref_Apply_l2 s.1 s.2.1 s.2.2).run) (List.range 6) 0
      (fun i t => ((i : Int), (⟨f 0, f 1, f 2, f 3, f 4, f 5⟩ : A6 Int), t)) (fun i t => t.length ≤ i) (fun t (v : Nat) => t ++ oneP v (f v)) (fun t => t) ?_ ?_ [] (by simp)
    · intro t _
      simp only [T_ref_Apply_l2, List.length_range]; rw [Tr.run_false (by rfl), Tr.run_leaf]
    · intro i t hi ht
      rw [List.length_range] at hi
      rw [range_getD hi]
      have h1 := oneP_len i (f i)
      refine ⟨?_, by rw [List.length_append]; omega⟩
      simp only [T_ref_Apply_l2, A6_get f hi]
      rw [Tr.run_true (by simp; omega), Tr.run_guard (by omega)]
      unfold oneP
      by_cases hp : 0 < f i
      · rw [if_pos hp, Tr.run_true (by simpa using hp), Tr.run_guard (by omega), Tr.run_guard (by simp only [sl_len_powers, List.length_singleton]; omega), Tr.run_leaf, i64_nat (by omega)]
      · rw [if_neg hp, Tr.run_false (by simpa using hp), Tr.run_leaf, i64_nat (by omega), List.append_nil]
  rw [sh_ref_Apply, T_ref_Apply, Tr.run_bind (pl_row ha), Tr.run_bind (k1 _), chA_fold]
  refine (Tr.run_bind (k2 (fun v => lastP d v (findP a v)))).trans ?_
  rw [Tr.run_leaf]; rfl

/-! Copies and comparisons. -/

theorem foldl_snoc {α : Type} : ∀ (l t : List α), l.foldl (fun t a => t ++ [a]) t = t ++ l
  | [], t => by simp
  | a :: l, t => by rw [List.foldl_cons, foldl_snoc l]; simp

theorem pl_copyC {c : Consumer} (h : FitC 140737488351232 c) : sh_ref_CopyConsumer c = some c := by
  have e1 := h.set; have e2 := h.pend; have e3 := h.ripes
  have key : ∀ z : Consumer, sh_ref_CopyConsumer_l1 c.Pending c.Pending.length 0 c z [] = some (c, z, c.Pending) := by
    intro z
    have := loop_fold (F := fun s : (List Packet) × Int × Int × Consumer × Consumer × (List Packet) => (T_ref_CopyConsumer_l1 s.1 s.2.1 s.2.2.1 s.2.2.2.1 s.2.2.2.2.1 s.2.2.2.2.2).run) c.Pending default
      (fun i t => (c.Pending, (c.Pending.length : Int), (i : Int), c, z, t)) (fun i t => t.length = i) (fun t a => t ++ [a]) (fun t => (c, z, t)) (by
        intro t _
        simp only [T_ref_CopyConsumer_l1]; rw [Tr.run_false (by simp), Tr.run_leaf]) (by
        intro i t hi ht
        obtain ⟨p1, p2⟩ := h.ps _ (getD_mem (l := c.Pending) (k := i) hi default)
        refine ⟨?_, by simp [ht]⟩
        simp only [T_ref_CopyConsumer_l1, Int.toNat_natCast]
        rw [Tr.run_true (by simpa using hi), Tr.run_guard ⟨by omega, by rw [sl_len_packets]; omega⟩, Tr.run_bind (pl_copyP p1 p2), Tr.run_guard (by simp only [sl_len_packets, List.length_singleton]; omega), Tr.run_leaf, i64_nat (by omega)]) [] rfl
    rw [foldl_snoc, List.nil_append] at this
    rw [sh_ref_CopyConsumer_l1]; exact this
  rw [sh_ref_CopyConsumer, T_ref_CopyConsumer]
  simp only [pl_copy h.said h.due, Option.isSome_some, Option.getD_some]
  rw [Tr.run_guard (by rw [sl_len_powers]; omega), Tr.run_guard (by trivial), Tr.run_guard (by rw [sl_len_ripes]; omega), Tr.run_bind (key _), Tr.run_leaf]

theorem pl_copyC_o {c : Consumer} (h : FitC 140737488351232 c) : sh_ref_CopyConsumer_o c = some c := by
  have e1 := h.set; have e2 := h.pend; have e3 := h.ripes
  have key : ∀ z : Consumer, sh_ref_CopyConsumer_o_l1 c.Pending c.Pending.length 0 c z [] = some (c, z, c.Pending) := by
    intro z
    have := loop_fold (F := fun s : (List Packet) × Int × Int × Consumer × Consumer × (List Packet) => (T_ref_CopyConsumer_o_l1 s.1 s.2.1 s.2.2.1 s.2.2.2.1 s.2.2.2.2.1 s.2.2.2.2.2).run) c.Pending default
      (fun i t => (c.Pending, (c.Pending.length : Int), (i : Int), c, z, t)) (fun i t => t.length = i) (fun t a => t ++ [a]) (fun t => (c, z, t)) (by
        intro t _
        simp only [T_ref_CopyConsumer_o_l1]; rw [Tr.run_false (by simp), Tr.run_leaf]) (by
        intro i t hi ht
        obtain ⟨p1, p2⟩ := h.ps _ (getD_mem (l := c.Pending) (k := i) hi default)
        refine ⟨?_, by simp [ht]⟩
        simp only [T_ref_CopyConsumer_o_l1, Int.toNat_natCast]
        rw [Tr.run_true (by simpa using hi), Tr.run_guard ⟨by omega, by rw [sl_len_packets]; omega⟩, Tr.run_bind (pl_copyP p1 p2), Tr.run_guard (by simp only [sl_len_packets, List.length_singleton]; omega), Tr.run_leaf, i64_nat (by omega)]) [] rfl
    rw [foldl_snoc, List.nil_append] at this
    rw [sh_ref_CopyConsumer_o_l1]; exact this
  rw [sh_ref_CopyConsumer_o, T_ref_CopyConsumer_o]
  simp only [pl_copy h.said h.due, Option.isSome_some, Option.getD_some]
  rw [Tr.run_guard (by rw [sl_len_powers]; omega), Tr.run_guard (by trivial), Tr.run_guard (by rw [sl_len_ripes]; omega), Tr.run_bind (key _), Tr.run_leaf]

theorem pl_refsameS1 {l : List Power} (hl : l.length ≤ 9223372036854775807) : sh_ref_SamePowers l l = some true := by
  obtain ⟨r, e1, e2⟩ := pl_refsameS (a := l) (b := l) hl
  rw [e1, e2.2 rfl]

/-- All that is compared is countable. -/
structure CountC (c : Consumer) : Prop where
  set : c.Set.length ≤ 9223372036854775807
  pend : c.Pending.length ≤ 9223372036854775807
  ripes : c.Ripes.length ≤ 9223372036854775807
  said : c.Out.Said.length ≤ 9223372036854775807
  due : c.Out.Due.length ≤ 9223372036854775807
  ps : ∀ p, p ∈ c.Pending → p.Set.length ≤ 9223372036854775807 ∧ p.Done.length ≤ 9223372036854775807

theorem FitC.count {c : Consumer} (h : FitC 9223372036854775807 c) : CountC c := by
  have e1 := h.set; have e2 := h.pend; have e3 := h.ripes; have e4 := h.said; have e5 := h.due
  exact ⟨by omega, by omega, by omega, by omega, by omega, fun p hp => ⟨by have := (h.ps p hp).1; omega, by have := (h.ps p hp).2; omega⟩⟩

theorem pl_sameC {c : Consumer} (h : CountC c) : sh_ref_SameConsumer c c = some true := by
  have e1 := h.set; have e2 := h.pend; have e3 := h.ripes
  have k1 : sh_ref_SameConsumer_l1 c.Pending.length 0 c c = some (.inr (c, c)) := by
    rw [sh_ref_SameConsumer_l1]
    refine (loop_all (F := fun s : Int × Int × Consumer × Consumer => (T_ref_SameConsumer_l1 s.1 s.2.1 s.2.2.1 s.2.2.2).run) c.Pending default (fun i => ((c.Pending.length : Int), (i : Int), c, c)) (fun _ => true) false (c, c) ?_ ?_ ?_).trans ?_
    · simp only [T_ref_SameConsumer_l1]; rw [Tr.run_false (by simp), Tr.run_leaf]
    · intro i hi _
      obtain ⟨p1, p2⟩ := h.ps _ (getD_mem (l := c.Pending) (k := i) hi default)
      simp only [T_ref_SameConsumer_l1, Int.toNat_natCast, pl_refsameP p1 p2, Option.isSome_some, Option.getD_some]
      rw [Tr.run_true (by simpa using hi), Tr.run_guard ⟨by omega, by rw [sl_len_packets]; omega⟩, Tr.run_guard ⟨by omega, by rw [sl_len_packets]; omega⟩, Tr.run_guard (by trivial), Tr.run_false (by rfl), Tr.run_leaf, i64_nat (by omega)]
    · intro i hi hp; cases hp
    · rw [if_pos (by simp)]
  have k2 : sh_ref_SameConsumer_l2 c.Ripes.length 0 c c = some (.inr ()) := by
    rw [sh_ref_SameConsumer_l2]
    refine (loop_all (F := fun s : Int × Int × Consumer × Consumer => (T_ref_SameConsumer_l2 s.1 s.2.1 s.2.2.1 s.2.2.2).run) c.Ripes default (fun i => ((c.Ripes.length : Int), (i : Int), c, c)) (fun _ => true) false () ?_ ?_ ?_).trans ?_
    · simp only [T_ref_SameConsumer_l2]; rw [Tr.run_false (by simp), Tr.run_leaf]
    · intro i hi _
      simp only [T_ref_SameConsumer_l2, Int.toNat_natCast]
      rw [Tr.run_true (by simpa using hi), Tr.run_guard ⟨by omega, by rw [sl_len_ripes]; omega⟩, Tr.run_guard ⟨by omega, by rw [sl_len_ripes]; omega⟩, Tr.run_false (by simp), Tr.run_leaf, i64_nat (by omega)]
    · intro i hi hp; cases hp
    · rw [if_pos (by simp)]
  rw [sh_ref_SameConsumer, T_ref_SameConsumer]
  simp only [pl_refsameS1 e1, pl_sameL h.said h.due, Option.isSome_some, Option.getD_some]
  rw [Tr.run_guard (by simp), Tr.run_guard (by simp), Tr.run_false (by simp), Tr.run_inr k1]
  simp only []
  rw [Tr.run_inr k2, Tr.run_leaf]

end Go.Proofs.Ythhdljniheaeoaa.Ab
