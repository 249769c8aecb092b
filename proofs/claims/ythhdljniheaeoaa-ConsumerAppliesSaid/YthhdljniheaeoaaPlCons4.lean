/-
  Consumers, with no program in sight: Down, Double, Remove; the laws.
-/
import Derived.Test.YthhdljniheaeoaaFStake
import Derived.Test.YthhdljniheaeoaaFConsLaw
import Derived.Test.YthhdljniheaeoaaFCons
import Derived.Test.YthhdljniheaeoaaPlCons3
namespace Go.Proofs.Ythhdljniheaeoaa.Ab
open Go Go.RowKit
set_option linter.unusedVariables false
set_option linter.unusedSimpArgs false

theorem findP_good : ∀ {l : List Power} {p v : Int}, powsOk 1 p l = true → findP l v = 0 ∨ 1 ≤ findP l v
  | [], _, _, _ => .inl rfl
  | a :: l, p, v, h => by
    rw [powsOk] at h
    simp only [Bool.and_eq_true, decide_eq_true_eq] at h
    unfold findP
    split
    · exact .inr h.1.1.2
    · exact findP_good h.2

theorem rowA_get {l : List Power} {v : Int} (h : 0 ≤ v ∧ v < 6) : (rowA l).get v = findP l v := by
  obtain rfl | rfl | rfl | rfl | rfl | rfl : v = 0 ∨ v = 1 ∨ v = 2 ∨ v = 3 ∨ v = 4 ∨ v = 5 := by omega
  all_goals rfl

def downC (c : Consumer) (v now : Int) : Consumer × Int :=
  if GoodC c = false ∨ now < 0 ∨ 1099511627776 < now then (c, 2) else if c.On = false ∨ v < 0 ∨ 5 < v ∨ findP c.Set v = 0 then (c, 4) else if c.Flags.get v = true then (c, 5)
  else if (sayC ⟨3, c.Id, v, findP c.Set v, [], []⟩ now c).1 ≠ 0 then (c, (sayC ⟨3, c.Id, v, findP c.Set v, [], []⟩ now c).1)
  else ({ (sayC ⟨3, c.Id, v, findP c.Set v, [], []⟩ now c).2 with Flags := (sayC ⟨3, c.Id, v, findP c.Set v, [], []⟩ now c).2.Flags.set v true }, 0)

theorem pl_Down {c : Consumer} {v now : Int} (h : FitC 140737488351232 c) : sh_consumer_Down c v now = some (downC c v now) := by
  have e1 := h.set
  have hsay := fun n => pl_say (p := ⟨3, c.Id, v, n, [], []⟩) (now := now) (c := c) (by simp) (by simp)
  rw [sh_consumer_Down, T_consumer_Down, Tr.run_bind (pl_consGood h)]
  simp only [pl_power (l := c.Set) (v := v) (by omega), hsay, Option.isSome_some, Option.getD_some]
  unfold downC
  by_cases h1 : GoodC c = false ∨ now < 0 ∨ 1099511627776 < now
  · rw [if_pos h1, Tr.run_true (by simpa [or_assoc] using h1), Tr.run_leaf]
  · rw [if_neg h1, Tr.run_false (by rw [Bool.eq_false_iff]; intro k; apply h1; simpa [or_assoc] using k), Tr.run_guard (by simp)]
    by_cases h2 : c.On = false ∨ v < 0 ∨ 5 < v ∨ findP c.Set v = 0
    · rw [if_pos h2, Tr.run_true (by
        simp only [Bool.or_eq_true, Bool.not_eq_true', decide_eq_true_eq, beq_iff_eq]
        rcases h2 with h2 | h2 | h2 | h2
        · exact .inl (.inl (.inl h2))
        · exact .inl (.inl (.inr h2))
        · exact .inl (.inr (by omega))
        · exact .inr h2), Tr.run_leaf]
    · simp only [not_or] at h2
      rw [if_neg (by simp only [not_or]; exact h2), Tr.run_false (by
        simp only [Bool.or_eq_false_iff, Bool.not_eq_false', decide_eq_false_iff_not, beq_eq_false_iff_ne]
        exact ⟨⟨⟨by simpa using h2.1, h2.2.1⟩, by omega⟩, h2.2.2.2⟩), Tr.run_guard (by omega)]
      by_cases h3 : c.Flags.get v = true
      · rw [if_pos h3, Tr.run_true h3, Tr.run_leaf]
      · rw [if_neg h3, Tr.run_false (by simpa using h3), Tr.run_guard (by trivial), Tr.run_guard (by trivial)]
        by_cases h4 : (sayC ⟨3, c.Id, v, findP c.Set v, [], []⟩ now c).1 = 0
        · rw [if_neg (by simpa using h4), Tr.run_false (by simpa using h4), Tr.run_guard (by omega), Tr.run_leaf]
        · rw [if_pos h4, Tr.run_true (by simpa using h4), Tr.run_leaf, sayC_bad h4]

theorem pl_refDown {c : Consumer} {v now : Int} (h : FitC 140737488351232 c) : sh_ref_DownAt c v now = some (downC c v now) := by
  have e1 := h.set
  have hsay := fun n => pl_saying (p := ⟨3, c.Id, v, n, [], []⟩) (now := now) (c := c) h (by simp) (by simp)
  rw [sh_ref_DownAt, T_ref_DownAt, Tr.run_bind (pl_refconsGood h)]
  simp only [pl_row (a := c.Set) (by omega), hsay, Option.isSome_some, Option.getD_some]
  unfold downC
  by_cases h1 : GoodC c = false ∨ now < 0 ∨ 1099511627776 < now
  · rw [if_pos h1, Tr.run_true (by simpa [or_assoc] using h1), Tr.run_leaf]
  · rw [if_neg h1, Tr.run_false (by rw [Bool.eq_false_iff]; intro k; apply h1; simpa [or_assoc] using k), Tr.run_guard (by simp), Tr.run_guard (by
      intro k
      simp only [Bool.or_eq_false_iff, decide_eq_false_iff_not] at k
      exact ⟨by omega, trivial⟩)]
    by_cases hv : 0 ≤ v ∧ v < 6
    · rw [rowA_get hv]
      by_cases h2 : c.On = false ∨ v < 0 ∨ 5 < v ∨ findP c.Set v = 0
      · rw [if_pos h2, Tr.run_true (by
          simp only [Bool.or_eq_true, Bool.not_eq_true', decide_eq_true_eq, beq_iff_eq]
          rcases h2 with h2 | h2 | h2 | h2
          · exact .inl (.inl (.inl h2))
          · exact .inl (.inl (.inr h2))
          · exact .inl (.inr (by omega))
          · exact .inr h2), Tr.run_leaf]
      · simp only [not_or] at h2
        rw [if_neg (by simp only [not_or]; exact h2), Tr.run_false (by
          simp only [Bool.or_eq_false_iff, Bool.not_eq_false', decide_eq_false_iff_not, beq_eq_false_iff_ne]
          exact ⟨⟨⟨by simpa using h2.1, h2.2.1⟩, by omega⟩, h2.2.2.2⟩), Tr.run_guard (by omega)]
        by_cases h3 : c.Flags.get v = true
        · rw [if_pos h3, Tr.run_true h3, Tr.run_leaf]
        · rw [if_neg h3, Tr.run_false (by simpa using h3), Tr.run_guard (by trivial), Tr.run_guard (by omega), Tr.run_guard (by trivial)]
          by_cases h4 : (sayC ⟨3, c.Id, v, findP c.Set v, [], []⟩ now c).1 = 0
          · rw [if_neg (by simpa using h4), Tr.run_true (by simpa using h4), Tr.run_guard (by omega), Tr.run_leaf, h4]
          · rw [if_pos h4, Tr.run_false (by simpa using h4), Tr.run_leaf, sayC_bad h4]
    · rw [if_pos (.inr (by omega)), Tr.run_true (by
        simp only [Bool.or_eq_true, Bool.not_eq_true', decide_eq_true_eq, beq_iff_eq]
        by_cases h5 : v < 0
        · exact .inl (.inl (.inr h5))
        · exact .inl (.inr (by omega))), Tr.run_leaf]

def maxC (c : Consumer) (v : Int) : Int := if findP c.Set v = 0 then 1 else findP c.Set v
def doubleC (c : Consumer) (v id now : Int) : Consumer × Int :=
  if GoodC c = false ∨ now < 0 ∨ 1099511627776 < now then (c, 2) else if c.On = false ∨ v < 0 ∨ 5 < v then (c, 4) else if id < 1 ∨ c.Id < id then (c, 2)
  else ((sayC ⟨4, id, v, maxC c v, [], []⟩ now c).2, (sayC ⟨4, id, v, maxC c v, [], []⟩ now c).1)

theorem pl_Double {c : Consumer} {v id now : Int} (h : FitC 140737488351232 c) : sh_consumer_Double c v id now = some (doubleC c v id now) := by
  have e1 := h.set
  rw [sh_consumer_Double, T_consumer_Double, Tr.run_bind (pl_consGood h)]
  unfold doubleC
  by_cases h1 : GoodC c = false ∨ now < 0 ∨ 1099511627776 < now
  · rw [if_pos h1, Tr.run_true (by simpa [or_assoc] using h1), Tr.run_leaf]
  · rw [if_neg h1, Tr.run_false (by rw [Bool.eq_false_iff]; intro k; apply h1; simpa [or_assoc] using k)]
    by_cases h2 : c.On = false ∨ v < 0 ∨ 5 < v
    · rw [if_pos h2, Tr.run_true (by
        simp only [Bool.or_eq_true, Bool.not_eq_true', decide_eq_true_eq]
        rcases h2 with h2 | h2 | h2
        · exact .inl (.inl h2)
        · exact .inl (.inr h2)
        · exact .inr (by omega)), Tr.run_leaf]
    · simp only [not_or] at h2
      rw [if_neg (by simp only [not_or]; exact h2), Tr.run_false (by
        simp only [Bool.or_eq_false_iff, Bool.not_eq_false', decide_eq_false_iff_not]
        exact ⟨⟨by simpa using h2.1, h2.2.1⟩, by omega⟩)]
      by_cases h3 : id < 1 ∨ c.Id < id
      · rw [if_pos h3, Tr.run_true (by simpa using h3), Tr.run_leaf]
      · have hg : GoodC c = true := by simp only [not_or] at h1; simpa using h1.1
        have hf := findP_good (v := v) (goodC_parts hg).2.2.1
        have hm : (if findP c.Set v > 1 then findP c.Set v else 1) = maxC c v := by
          unfold maxC
          rcases hf with hf | hf
          · rw [if_neg (by omega), if_pos hf]
          · rw [if_neg (show ¬ findP c.Set v = 0 by omega)]
            split <;> omega
        rw [if_neg h3, Tr.run_false (by simp; omega), Tr.run_bind (pl_power (by omega)), hm, Tr.run_bind (pl_say (by simp) (by simp))]
        by_cases h4 : (sayC ⟨4, id, v, maxC c v, [], []⟩ now c).1 = 0
        · rw [Tr.run_false (by simpa using h4), Tr.run_leaf, h4]
        · rw [Tr.run_true (by simpa using h4), Tr.run_leaf]

theorem pl_refDouble {c : Consumer} {v id now : Int} (h : FitC 140737488351232 c) : sh_ref_DoubleAt c v id now = some (doubleC c v id now) := by
  have e1 := h.set
  rw [sh_ref_DoubleAt, T_ref_DoubleAt, Tr.run_bind (pl_refconsGood h)]
  unfold doubleC
  by_cases h1 : GoodC c = false ∨ now < 0 ∨ 1099511627776 < now
  · rw [if_pos h1, Tr.run_true (by simpa [or_assoc] using h1), Tr.run_leaf]
  · rw [if_neg h1, Tr.run_false (by rw [Bool.eq_false_iff]; intro k; apply h1; simpa [or_assoc] using k)]
    by_cases h2 : c.On = false ∨ v < 0 ∨ 5 < v
    · rw [if_pos h2, Tr.run_true (by
        simp only [Bool.or_eq_true, Bool.not_eq_true', decide_eq_true_eq]
        rcases h2 with h2 | h2 | h2
        · exact .inl (.inl h2)
        · exact .inl (.inr h2)
        · exact .inr (by omega)), Tr.run_leaf]
    · simp only [not_or] at h2
      rw [if_neg (by simp only [not_or]; exact h2), Tr.run_false (by
        simp only [Bool.or_eq_false_iff, Bool.not_eq_false', decide_eq_false_iff_not]
        exact ⟨⟨by simpa using h2.1, h2.2.1⟩, by omega⟩)]
      by_cases h3 : id < 1 ∨ c.Id < id
      · rw [if_pos h3, Tr.run_true (by simpa using h3), Tr.run_leaf]
      · rw [if_neg h3, Tr.run_false (by simp; omega), Tr.run_bind (pl_row (by omega)), Tr.run_guard (by omega), rowA_get (by omega)]
        by_cases h5 : findP c.Set v = 0
        · have hm : maxC c v = 1 := if_pos h5
          rw [hm, Tr.run_true (by simpa using h5), Tr.run_bind (pl_saying h (by simp) (by simp)), Tr.run_leaf]
        · have hm : maxC c v = findP c.Set v := if_neg h5
          rw [hm, Tr.run_false (by simpa using h5), Tr.run_bind (pl_saying h (by simp) (by simp)), Tr.run_leaf]

def removeC (c : Consumer) : Consumer := if c.On = false then c else { c with On := false, Gone := true, Out := { c.Out with Closed := true } }

theorem pl_Remove {c : Consumer} : sh_consumer_Remove c = some (removeC c) := by
  rw [sh_consumer_Remove, T_consumer_Remove]
  unfold removeC
  cases ho : c.On with
  | false => rw [Tr.run_true (by rfl), Tr.run_leaf, if_pos rfl]
  | true => rw [Tr.run_false (by rfl), Tr.run_leaf, if_neg (by simp)]

theorem pl_refRemove {c : Consumer} (h : FitC 140737488351232 c) : sh_ref_RemoveConsumer c = some (removeC c) := by
  rw [sh_ref_RemoveConsumer, T_ref_RemoveConsumer]
  unfold removeC
  cases ho : c.On with
  | false => rw [Tr.run_false rfl, Tr.run_leaf, if_pos rfl]
  | true => rw [Tr.run_true rfl, Tr.run_bind (pl_copyC h), Tr.run_leaf, if_neg (by simp)]

/-! Does a consumer answer at all? -/

def small1 : Consumer := beginC [⟨1, 5⟩] 3 7
theorem small1_fit : FitC 140737488351232 small1 := by
  refine ⟨?_, ?_, ?_, ?_, ?_, fun p hp => ?_⟩
  all_goals (first | (simp [small1, beginC]; done) | (simp [small1, beginC] at hp))
def small2 : Consumer := { small1 with Height := 1, Time := 8 }
theorem small2_fit : FitC 140737488351232 small2 := ⟨small1_fit.set, small1_fit.pend, small1_fit.ripes, small1_fit.said, small1_fit.due, small1_fit.ps⟩
theorem small_end : endC 8 small1 = (small2, 0) := by rfl
theorem small_good : GoodC small2 = true := by rfl

theorem pl_lawconsumes : sh_law_consumes = some true := by
  have e1 : sh_consumer_End (beginC [⟨1, 5⟩] 3 7) 8 = some (small2, 0) := (pl_End small1_fit (by simp [small1, beginC])).trans (by rw [small_end])
  rw [sh_law_consumes, T_law_consumes, Tr.run_bind (pl_Begin (by simp)), Tr.run_bind e1]
  simp only [pl_consGood small2_fit, small_good, Option.isSome_some, Option.getD_some]
  rw [Tr.run_guard (by simp), Tr.run_leaf]
  rfl

theorem pl_keepconsumes : sh_keep_consumes = some true := by
  have e1 : sh_consumer_End (beginC [⟨1, 5⟩] 3 7) 8 = some (small2, 0) := (pl_End small1_fit (by simp [small1, beginC])).trans (by rw [small_end])
  rw [sh_keep_consumes, T_keep_consumes, Tr.run_bind (pl_Begin (by simp)), Tr.run_bind e1]
  simp only [pl_consGood small2_fit, small_good, Option.isSome_some, Option.getD_some]
  rw [Tr.run_guard (by simp), Tr.run_leaf]
  rfl

theorem pl_ConsumerBegins {l : List Power} {id now : Int} (hl : l.length * 16 ≤ 140737488351232) : sh_law_ConsumerBegins l id now = some true := by
  have hc : CountC (beginC l id now) := ⟨by simp [beginC]; omega, by simp [beginC], by simp [beginC], by simp [beginC], by simp [beginC], fun p hp => by simp [beginC] at hp⟩
  rw [sh_law_ConsumerBegins, T_law_ConsumerBegins, Tr.run_bind (v := l) (by rw [sh_law_powers, T_law_powers, Tr.run_guard (by rw [sl_len_powers]; omega), Tr.run_leaf]), Tr.run_bind (pl_Begin (by omega)), Tr.run_bind (pl_refBegin (by omega)), Tr.run_bind (pl_sameC hc)]
  simp only [pl_lawconsumes, Option.isSome_some, Option.getD_some]
  rw [Tr.run_guard (by simp), Tr.run_leaf]
  rfl

theorem pl_ConsumerHears {c : Consumer} {a : ByteArray} (h : FitC 140737488351232 c) (ha : a.size ≤ 140737488351232) : sh_law_ConsumerHears c a = some true := by
  rw [sh_law_ConsumerHears, T_law_ConsumerHears, Tr.run_bind (pl_copyC h), Tr.run_bind (pl_Hear h (by omega)), Tr.run_bind (pl_refHear h (by omega))]
  simp only [pl_copyC h, pl_sameC (hearC_count h), pl_consGood h, pl_refconsGood h, pl_lawconsumes, Option.isSome_some, Option.getD_some]
  repeat rw [Tr.run_guard (by simp)]
  rw [Tr.run_leaf]
  simp

theorem sayC_count {p : Packet} {now : Int} {c : Consumer} (h : FitC 140737488351232 c) : CountC (sayC p now c).2 :=
  ((sayC_fit (by omega) h).mono (S := 9223372036854775807) (by omega)).count

theorem downC_count {c : Consumer} {v now : Int} (h : FitC 140737488351232 c) : CountC (downC c v now).1 := by
  have h0 := (h.mono (S := 9223372036854775807) (by omega)).count
  unfold downC
  repeat' split
  all_goals (first | exact h0 | skip)
  have k := sayC_count (p := ⟨3, c.Id, v, findP c.Set v, [], []⟩) (now := now) h
  exact ⟨k.set, k.pend, k.ripes, k.said, k.due, k.ps⟩

theorem doubleC_count {c : Consumer} {v id now : Int} (h : FitC 140737488351232 c) : CountC (doubleC c v id now).1 := by
  have h0 := (h.mono (S := 9223372036854775807) (by omega)).count
  unfold doubleC
  repeat' split
  all_goals (first | exact h0 | exact sayC_count h)

theorem pl_ConsumerTells {c : Consumer} {v id now : Int} (h : FitC 140737488351232 c) : sh_law_ConsumerTells c v id now = some true := by
  rw [sh_law_ConsumerTells, T_law_ConsumerTells, Tr.run_bind (pl_copyC h), Tr.run_bind (pl_Down h), Tr.run_bind (pl_refDown h)]
  simp only [pl_sameC (downC_count h), Option.isSome_some, Option.getD_some]
  rw [Tr.run_guard (by simp), Tr.run_false (by simp), Tr.run_bind (pl_copyC h), Tr.run_bind (pl_Double h), Tr.run_bind (pl_refDouble h)]
  simp only [pl_sameC (doubleC_count h), pl_lawconsumes, Option.isSome_some, Option.getD_some]
  rw [Tr.run_guard (by simp), Tr.run_guard (by simp), Tr.run_leaf]
  simp

theorem ripenL_fit {now : Int} {R : Nat} (hR : 6416 ≤ R) : ∀ (rs : List Ripe) {c : Consumer}, FitC R c → rs.length * 16 ≤ R → FitC R (ripenL now rs c)
  | [], c, h, _ => h
  | r :: rs, c, h, hr => by
    rw [List.length_cons] at hr
    unfold ripenL
    split
    · split
      · exact h
      · have k := sayC_fit hR (p := ⟨2, r.Id, 0, 0, [], []⟩) (now := now) h
        exact ripenL_fit hR rs ⟨k.set, k.pend, by simp only []; omega, k.said, k.due, k.ps⟩ (by omega)
    · exact h

theorem endC_fit {now : Int} {R : Nat} (hR : 6416 ≤ R) {c : Consumer} (h : FitC R c) (hr : (c.Ripes.length + c.Pending.length) * 16 ≤ R) : FitC R (endC now c).1 := by
  unfold endC
  repeat' split
  all_goals (first | exact h | skip)
  have hf : FitC R { c with Height := IntKind.i64.wrap (c.Height + 1), Time := now } := ⟨h.set, h.pend, h.ripes, h.said, h.due, h.ps⟩
  have k := foldPend_fit (now := now) hR hf (l := c.Pending) hr
  exact ripenL_fit hR _ k k.ripes

theorem removeC_count {c : Consumer} (h : CountC c) : CountC (removeC c) := by
  unfold removeC
  split
  · exact h
  · exact ⟨h.set, h.pend, h.ripes, h.said, h.due, h.ps⟩

theorem pl_ConsumerEnds {c : Consumer} {now : Int} (h : FitC 140737488351232 c) (hr : (c.Ripes.length + c.Pending.length) * 16 ≤ 140737488351232) : sh_law_ConsumerEnds c now = some true := by
  have h0 := (h.mono (S := 9223372036854775807) (by omega)).count
  have h1 := ((endC_fit (now := now) (by omega) h hr).mono (S := 9223372036854775807) (by omega)).count
  rw [sh_law_ConsumerEnds, T_law_ConsumerEnds, Tr.run_bind (pl_copyC h), Tr.run_bind (pl_End h (by omega)), Tr.run_bind (pl_refEnd h hr)]
  simp only [pl_sameC h1, pl_sameC h0, pl_copyC h, pl_Remove, pl_refRemove h, pl_sameC (removeC_count h0), pl_lawconsumes, Option.isSome_some, Option.getD_some]
  repeat rw [Tr.run_guard (by simp)]
  rw [Tr.run_leaf]
  simp

end Go.Proofs.Ythhdljniheaeoaa.Ab
