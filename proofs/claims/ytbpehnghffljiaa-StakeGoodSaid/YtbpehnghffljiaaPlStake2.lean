/-
  Stakes, with no program in sight: Delegate, Undelegate, Jail, Unjail, Bury, twice told, are the same.
-/
import Derived.Test.YtbpehnghffljiaaFStakeA
import Derived.Test.YtbpehnghffljiaaFRefA
import Derived.Test.YtbpehnghffljiaaFBank
import Derived.Test.YtbpehnghffljiaaPlStake1
import Derived.Test.YtbpehnghffljiaaFRefB
namespace Go.Proofs.Ytbpehnghffljiaa.Ab
open Go Go.RowKit
set_option linter.unusedVariables false
set_option linter.unusedSimpArgs false

theorem GoodS.at {s : Stake} (h : GoodS s) {v : Int} (hv : 0 ≤ v ∧ v < 6) : GoodV s v := by
  have := h.2.2.1 v.toNat (by omega)
  rwa [show ((v.toNat : Nat) : Int) = v by omega] at this
theorem GoodS.shr {s : Stake} (h : GoodS s) {d v : Int} (hd : 0 ≤ d ∧ d < 4) (hv : 0 ≤ v ∧ v < 6) : 0 ≤ A46.get s.Shares d v ∧ A46.get s.Shares d v ≤ 1125899906842624 := by
  have := (h.at hv).2.1 d.toNat (by omega)
  rwa [show ((d.toNat : Nat) : Int) = d by omega] at this

theorem known_ok {s : Stake} {d v : Int} (h : knownS s d v = 0) : GoodS s ∧ (0 ≤ d ∧ d < 4) ∧ (0 ≤ v ∧ v < 6) := by
  unfold knownS at h
  by_cases hg : GoodS s
  · rw [if_neg (by simpa using hg)] at h
    by_cases h2 : d < 0 ∨ 4 ≤ d ∨ v < 0 ∨ 6 ≤ v
    · rw [if_pos h2] at h; cases h
    · exact ⟨hg, by omega, by omega⟩
  · rw [if_pos hg] at h; cases h

/-- With n tokens and k shares of d on v more. -/
def addS (s : Stake) (b : Bank) (d v n k : Int) : Stake :=
  ⟨b, { s.Validators with Tokens := s.Validators.Tokens.set v (s.Validators.Tokens.get v + n), Shares := s.Validators.Shares.set v (s.Validators.Shares.get v + k) }, A46.set s.Shares d v (A46.get s.Shares d v + k), s.Waits, s.Next⟩
def sharesFor (s : Stake) (v n : Int) : Int × Int := if s.Validators.Shares.get v = 0 then (n, 0) else mulDivP n (s.Validators.Shares.get v) (s.Validators.Tokens.get v)
def delegateS (s : Stake) (d v n : Int) : Stake × Int :=
  if knownS s d v ≠ 0 then (s, knownS s d v) else if s.Validators.Dead.get v = true then (s, 15) else if n < 1 ∨ 1125899906842624 < n then (s, 2)
  else if s.Validators.Shares.get v ≠ 0 ∧ s.Validators.Tokens.get v = 0 then (s, 8) else if (sharesFor s v n).2 ≠ 0 ∨ 1125899906842624 < s.Validators.Shares.get v + (sharesFor s v n).1 then (s, 6)
  else if (sharesFor s v n).1 < 1 then (s, 8) else if (bondB s.Bank d n).2 ≠ 0 then (s, (bondB s.Bank d n).2) else (addS s (bondB s.Bank d n).1 d v n (sharesFor s v n).1, 0)

theorem mulDivP_nn (a b c : Int) : 0 ≤ (mulDivP a b c).1 ∧ (mulDivP a b c).1 ≤ 1125899906842624 := by
  unfold mulDivP
  by_cases h : a < 0 ∨ b < 0 ∨ c < 1
  · rw [if_pos h]; simp
  · rw [if_neg h]
    by_cases h2 : 1125899906842624 < a * b / c
    · rw [if_pos h2]; simp
    · rw [if_neg h2]
      have h3 : 0 ≤ a * b := Int.mul_nonneg (by omega) (by omega)
      exact ⟨Int.ediv_nonneg h3 (by omega), by show a * b / c ≤ _; omega⟩

theorem pl_Delegate {s : Stake} {d v n : Int} (hn : n ≤ 9223372036854775807) : sh_stake_Delegate s d v n = some (delegateS s d v n) := by
  rw [sh_stake_Delegate, T_stake_Delegate, Tr.run_bind (pl_known _ _ _)]
  unfold delegateS
  by_cases h0 : knownS s d v = 0
  · obtain ⟨hg, hd, hv⟩ := known_ok h0
    obtain ⟨⟨hT, hS, hL, h4, h5⟩, _, _⟩ := hg.at hv
    have hsh := hg.shr hd hv
    rw [if_neg (by simpa using h0), Tr.run_false (by simpa using h0), Tr.run_guard hv]
    by_cases h1 : s.Validators.Dead.get v = true
    · rw [if_pos h1, Tr.run_true h1, Tr.run_leaf]
    · rw [if_neg h1, Tr.run_false (by simpa using h1)]
      by_cases h2 : n < 1 ∨ 1125899906842624 < n
      · rw [if_pos h2, Tr.run_true (by simpa using h2), Tr.run_leaf]
      · rw [if_neg h2, Tr.run_false (by simp only [Bool.or_eq_false_iff, decide_eq_false_iff_not]; omega)]
        by_cases h3 : s.Validators.Shares.get v = 0
        · have e : sharesFor s v n = (n, 0) := by unfold sharesFor; rw [if_pos h3]
          rw [e, if_neg (by simp [h3]), if_neg (by simp; omega), if_neg (by show ¬ n < 1; omega), Tr.run_false (by simp [h3]), Tr.run_false (by simp; omega), Tr.run_bind pl_Bond]
          by_cases h6 : (bondB s.Bank d n).2 = 0
          · rw [if_neg (by simpa using h6), Tr.run_false (by simpa using h6), Tr.run_guard hd, Tr.run_guard hv, Tr.run_guard hd, Tr.run_guard hv, Tr.run_leaf, i64_in (x := s.Validators.Tokens.get v + n) (by omega) (by omega), i64_in (x := s.Validators.Shares.get v + n) (by omega) (by omega), i64_in (x := A46.get s.Shares d v + n) (by omega) (by omega)]
            rfl
          · rw [if_pos h6, Tr.run_true (by simpa using h6), Tr.run_leaf]
        · have e : sharesFor s v n = mulDivP n (s.Validators.Shares.get v) (s.Validators.Tokens.get v) := by unfold sharesFor; rw [if_neg h3]
          have hm := mulDivP_nn n (s.Validators.Shares.get v) (s.Validators.Tokens.get v)
          rw [e, Tr.run_true (by simp; omega)]
          by_cases h7 : s.Validators.Tokens.get v = 0
          · rw [if_pos ⟨h3, h7⟩, Tr.run_true (by simpa using h7), Tr.run_leaf]
          · rw [if_neg (by simp [h7]), Tr.run_false (by simpa using h7)]
            simp only [pl_MulDiv (a := n) (b := s.Validators.Shares.get v) (c := s.Validators.Tokens.get v) (by omega) (by omega) (by omega), Option.isSome_some, Option.getD_some]
            rw [Tr.run_guard (by trivial), i64_in (x := 1125899906842624 - _) (by omega) (by omega)]
            obtain ⟨k, hk⟩ : ∃ k, k = mulDivP n (s.Validators.Shares.get v) (s.Validators.Tokens.get v) := ⟨_, rfl⟩
            rw [← hk] at hm ⊢
            by_cases h8 : k.2 ≠ 0 ∨ 1125899906842624 < s.Validators.Shares.get v + k.1
            · rw [if_pos h8, Tr.run_true (by simp only [Bool.or_eq_true, decide_eq_true_eq, bne_iff_ne]; omega), Tr.run_leaf]
            · rw [if_neg h8, Tr.run_false (by simp only [Bool.or_eq_false_iff, decide_eq_false_iff_not, bne_eq_false_iff_eq]; omega)]
              by_cases h9 : k.1 < 1
              · rw [if_pos h9, Tr.run_true (by rw [beq_iff_eq]; omega), Tr.run_leaf]
              · rw [if_neg h9, Tr.run_false (by rw [beq_eq_false_iff_ne]; omega), Tr.run_bind pl_Bond]
                by_cases h6 : (bondB s.Bank d n).2 = 0
                · rw [if_neg (by simpa using h6), Tr.run_false (by simpa using h6), Tr.run_guard hd, Tr.run_guard hv, Tr.run_guard hd, Tr.run_guard hv, Tr.run_leaf, i64_in (x := s.Validators.Tokens.get v + n) (by omega) (by omega), i64_in (x := s.Validators.Shares.get v + k.1) (by omega) (by omega), i64_in (x := A46.get s.Shares d v + k.1) (by omega) (by omega)]
                  rfl
                · rw [if_pos h6, Tr.run_true (by simpa using h6), Tr.run_leaf]
  · rw [if_pos h0, Tr.run_true (by simpa using h0), Tr.run_leaf]

theorem pl_copyS {s : Stake} (h : s.Waits.length * 64 ≤ 140737488351232) : sh_ref_CopyStake s = some s := by
  rw [sh_ref_CopyStake, T_ref_CopyStake, Tr.run_guard (by rw [sl_len_waits]; omega), Tr.run_leaf]
theorem pl_copyS_o {s : Stake} (h : s.Waits.length * 64 ≤ 140737488351232) : sh_ref_CopyStake_o s = some s := by
  rw [sh_ref_CopyStake_o, T_ref_CopyStake_o, Tr.run_guard (by rw [sl_len_waits]; omega), Tr.run_leaf]
theorem GoodS.fit {s : Stake} (h : GoodS s) : s.Waits.length * 64 ≤ 140737488351232 := by have := h.2.1.2.2; omega

theorem pl_refDelegate {s : Stake} {d v n : Int} (hn : n ≤ 9223372036854775807) : sh_ref_Delegate s d v n = some (delegateS s d v n) := by
  rw [sh_ref_Delegate, T_ref_Delegate, Tr.run_bind (pl_some _ _ _)]
  unfold delegateS
  by_cases h0 : knownS s d v = 0
  · obtain ⟨hg, hd, hv⟩ := known_ok h0
    obtain ⟨⟨hT, hS, hL, h4, h5⟩, _, _⟩ := hg.at hv
    have hsh := hg.shr hd hv
    rw [if_neg (by simpa using h0), Tr.run_false (by simpa using h0), Tr.run_guard hv]
    by_cases h1 : s.Validators.Dead.get v = true
    · rw [if_pos h1, Tr.run_true h1, Tr.run_leaf]
    · rw [if_neg h1, Tr.run_false (by simpa using h1)]
      by_cases h2 : n < 1 ∨ 1125899906842624 < n
      · rw [if_pos h2, Tr.run_true (by simpa using h2), Tr.run_leaf]
      · rw [if_neg h2, Tr.run_false (by simp only [Bool.or_eq_false_iff, decide_eq_false_iff_not]; omega)]
        by_cases h3 : s.Validators.Shares.get v = 0
        · have e : sharesFor s v n = (n, 0) := by unfold sharesFor; rw [if_pos h3]
          rw [e, if_neg (by simp [h3]), if_neg (by simp; omega), if_neg (by show ¬ n < 1; omega), Tr.run_false (by simp [h3]), Tr.run_false (by simp; omega), Tr.run_bind pl_refBond]
          by_cases h6 : (bondB s.Bank d n).2 = 0
          · rw [if_neg (by simpa using h6), Tr.run_false (by simpa using h6), Tr.run_bind (pl_copyS hg.fit)]
            iterate 4 rw [Tr.run_guard hv]
            rw [Tr.run_guard hd, Tr.run_guard hv, Tr.run_guard hd, Tr.run_guard hv, Tr.run_leaf, i64_in (x := s.Validators.Tokens.get v + n) (by omega) (by omega), i64_in (x := s.Validators.Shares.get v + n) (by omega) (by omega), i64_in (x := A46.get s.Shares d v + n) (by omega) (by omega)]
            rfl
          · rw [if_pos h6, Tr.run_true (by simpa using h6), Tr.run_leaf]
        · have e : sharesFor s v n = mulDivP n (s.Validators.Shares.get v) (s.Validators.Tokens.get v) := by unfold sharesFor; rw [if_neg h3]
          have hm := mulDivP_nn n (s.Validators.Shares.get v) (s.Validators.Tokens.get v)
          rw [e, Tr.run_true (by simpa using h3)]
          by_cases h7 : s.Validators.Tokens.get v = 0
          · rw [if_pos ⟨h3, h7⟩, Tr.run_true (by simpa using h7), Tr.run_leaf]
          · rw [if_neg (by simp [h7]), Tr.run_false (by simpa using h7), Tr.run_bind (pl_refMulDiv (a := n) (b := s.Validators.Shares.get v) (c := s.Validators.Tokens.get v) (by omega) (by omega) (by omega))]
            obtain ⟨k, hk⟩ : ∃ k, k = mulDivP n (s.Validators.Shares.get v) (s.Validators.Tokens.get v) := ⟨_, rfl⟩
            rw [← hk] at hm ⊢
            rw [i64_in (x := s.Validators.Shares.get v + k.1) (by omega) (by omega)]
            by_cases h8 : k.2 ≠ 0 ∨ 1125899906842624 < s.Validators.Shares.get v + k.1
            · rw [if_pos h8, Tr.run_true (by simpa using h8), Tr.run_leaf]
            · rw [if_neg h8, Tr.run_false (by simp only [Bool.or_eq_false_iff, decide_eq_false_iff_not, bne_eq_false_iff_eq]; omega)]
              by_cases h9 : k.1 < 1
              · rw [if_pos h9, Tr.run_true (by simpa using h9), Tr.run_leaf]
              · rw [if_neg h9, Tr.run_false (by simpa using h9), Tr.run_bind pl_refBond]
                by_cases h6 : (bondB s.Bank d n).2 = 0
                · rw [if_neg (by simpa using h6), Tr.run_false (by simpa using h6), Tr.run_bind (pl_copyS hg.fit)]
                  iterate 4 rw [Tr.run_guard hv]
                  rw [Tr.run_guard hd, Tr.run_guard hv, Tr.run_guard hd, Tr.run_guard hv, Tr.run_leaf, i64_in (x := s.Validators.Tokens.get v + n) (by omega) (by omega), i64_in (x := s.Validators.Shares.get v + k.1) (by omega) (by omega), i64_in (x := A46.get s.Shares d v + k.1) (by omega) (by omega)]
                  rfl
                · rw [if_pos h6, Tr.run_true (by simpa using h6), Tr.run_leaf]
  · rw [if_pos h0, Tr.run_true (by simpa using h0), Tr.run_leaf]

/-! Undelegate. -/

def outW (s : Stake) (d v n : Int) (w : Wait) : Wait := { w with Number := s.Next, D := d, V := v, Amount := n }
def subS (s : Stake) (b : Bank) (d v n k : Int) (w : Wait) : Stake :=
  ⟨b, { s.Validators with Tokens := s.Validators.Tokens.set v (s.Validators.Tokens.get v - n), Shares := s.Validators.Shares.set v (s.Validators.Shares.get v - k) }, A46.set s.Shares d v (A46.get s.Shares d v - k), s.Waits ++ [outW s d v n w], s.Next + 1⟩
def worth (s : Stake) (v k : Int) : Int := (mulDivP k (s.Validators.Tokens.get v) (s.Validators.Shares.get v)).1
def undelegateS (s : Stake) (d v k : Int) (w : Wait) : Stake × Int :=
  if knownS s d v ≠ 0 then (s, knownS s d v) else if k < 1 ∨ 1125899906842624 < k ∨ w.Height < 0 ∨ w.Due < 0 then (s, 2) else if A46.get s.Shares d v < k then (s, 7)
  else if 60 ≤ s.Waits.length ∨ 1125899906842624 ≤ s.Next then (s, 6) else if worth s v k < 1 then (s, 8) else if (moveB s.Bank 4 5 (worth s v k)).2 ≠ 0 then (s, (moveB s.Bank 4 5 (worth s v k)).2)
  else (subS s (moveB s.Bank 4 5 (worth s v k)).1 d v (worth s v k) k w, 0)

theorem worth_all {s : Stake} {v k : Int} (h1 : 1 ≤ k) (hT : inA (s.Validators.Tokens.get v)) (h : k = s.Validators.Shares.get v) : worth s v k = s.Validators.Tokens.get v := by
  unfold worth mulDivP
  rw [← h, if_neg (by omega), Int.mul_ediv_cancel_left _ (by omega), if_neg (by omega)]

theorem pl_cloneW {l : List Wait} (h : l.length * 64 ≤ 140737488351232) : sh_slices_Clone_api_Wait l = some l := by
  rw [sh_slices_Clone_api_Wait, T_slices_Clone_api_Wait]
  refine Tr.run_split (fun h0 => ?_) (fun _ => ?_) (.inr trivial)
  · rw [Tr.run_leaf, List.length_eq_zero_iff.1 h0]
  · rw [Tr.run_guard (by simp only [sl_len_waits, List.length_nil]; omega), Tr.run_leaf]

theorem shares_le {s : Stake} (h : GoodS s) {d v : Int} (hd : 0 ≤ d ∧ d < 4) (hv : 0 ≤ v ∧ v < 6) : A46.get s.Shares d v ≤ s.Validators.Shares.get v := by
  have h0 := h.shr (d := 0) (by omega) hv
  have h1 := h.shr (d := 1) (by omega) hv
  have h2 := h.shr (d := 2) (by omega) hv
  have h3 := h.shr (d := 3) (by omega) hv
  rw [← (h.at hv).2.2]
  unfold shSum shr
  obtain rfl | rfl | rfl | rfl : d = 0 ∨ d = 1 ∨ d = 2 ∨ d = 3 := by omega
  all_goals omega

theorem pl_Undelegate {s : Stake} {d v k : Int} {w : Wait} (hk : k ≤ 9223372036854775807) : sh_stake_Undelegate s d v k w = some (undelegateS s d v k w) := by
  rw [sh_stake_Undelegate, T_stake_Undelegate, Tr.run_bind (pl_known _ _ _)]
  unfold undelegateS
  by_cases h0 : knownS s d v = 0
  · obtain ⟨hg, hd, hv⟩ := known_ok h0
    obtain ⟨⟨hT, hS, hL, h4, h5⟩, _, _⟩ := hg.at hv
    have hsh := hg.shr hd hv
    have hle := shares_le hg hd hv
    have hN := hg.2.1
    rw [if_neg (by simpa using h0), Tr.run_false (by simpa using h0)]
    by_cases h1 : k < 1 ∨ 1125899906842624 < k ∨ w.Height < 0 ∨ w.Due < 0
    · rw [if_pos h1, Tr.run_true (by simpa [or_assoc] using h1), Tr.run_leaf]
    · rw [if_neg h1, Tr.run_false (by simp only [Bool.or_eq_false_iff, decide_eq_false_iff_not]; omega), Tr.run_guard hd, Tr.run_guard hv]
      by_cases h2 : A46.get s.Shares d v < k
      · rw [if_pos h2, Tr.run_true (by simpa using h2), Tr.run_leaf]
      · rw [if_neg h2, Tr.run_false (by simpa using h2)]
        by_cases h3 : 60 ≤ s.Waits.length ∨ 1125899906842624 ≤ s.Next
        · rw [if_pos h3, Tr.run_true (by simp only [Bool.or_eq_true, decide_eq_true_eq]; omega), Tr.run_leaf]
        · rw [if_neg h3, Tr.run_false (by simp only [Bool.or_eq_false_iff, decide_eq_false_iff_not]; omega), Tr.run_guard hv]
          have hm := mulDivP_nn k (s.Validators.Tokens.get v) (s.Validators.Shares.get v)
          have hlen : s.Waits.length * 64 ≤ 140737488351232 := by omega
          simp only [pl_MulDiv (a := k) (b := s.Validators.Tokens.get v) (c := s.Validators.Shares.get v) (by omega) (by omega) (by omega), pl_cloneW hlen, Option.isSome_some, Option.getD_some]
          rw [Tr.run_guard (by trivial)]
          change 0 ≤ worth s v k ∧ worth s v k ≤ 1125899906842624 at hm
          have ef : ∀ n : Int, (⟨s.Next, d, v, n, w.Height, w.Due, w.h0, w.h1⟩ : Wait) = outW s d v n w := fun _ => rfl
          by_cases h6 : k = s.Validators.Shares.get v
          · have ew := worth_all (by omega) hT h6
            rw [Tr.run_true (by simpa using h6), ew]
            by_cases h7 : s.Validators.Tokens.get v < 1
            · rw [if_pos h7, Tr.run_true (by rw [beq_iff_eq]; omega), Tr.run_leaf]
            · rw [if_neg h7, Tr.run_false (by rw [beq_eq_false_iff_ne]; omega), Tr.run_bind pl_Unbond]
              by_cases h8 : (moveB s.Bank 4 5 (s.Validators.Tokens.get v)).2 = 0
              · rw [if_neg (by simpa using h8), Tr.run_false (by simpa using h8), Tr.run_guard hd, Tr.run_guard hv, Tr.run_guard hd, Tr.run_guard hv, Tr.run_guard (by trivial), Tr.run_guard (by simp only [sl_len_waits, List.length_singleton]; omega), Tr.run_leaf,
                  i64_in (x := s.Validators.Tokens.get v - _) (by omega) (by omega), i64_in (x := s.Validators.Shares.get v - k) (by omega) (by omega), i64_in (x := A46.get s.Shares d v - k) (by omega) (by omega), i64_in (x := s.Next + 1) (by omega) (by omega)]
                rfl
              · rw [if_pos h8, Tr.run_true (by simpa using h8), Tr.run_leaf]
          · rw [Tr.run_false (by simpa using h6)]
            change Tr.run (.ite (worth s v k == 0) _ (.bind (sh_bank_Unbond s.Bank (worth s v k)) _)) = _
            by_cases h7 : worth s v k < 1
            · rw [if_pos h7, Tr.run_true (by rw [beq_iff_eq]; omega), Tr.run_leaf]
            · rw [if_neg h7, Tr.run_false (by rw [beq_eq_false_iff_ne]; omega), Tr.run_bind pl_Unbond]
              change _ = some (if (moveB s.Bank 4 5 (worth s v k)).2 ≠ 0 then (s, (moveB s.Bank 4 5 (worth s v k)).2) else (subS s (moveB s.Bank 4 5 (worth s v k)).1 d v (worth s v k) k w, 0))
              by_cases h8 : (moveB s.Bank 4 5 (worth s v k)).2 = 0
              · rw [if_neg (by simpa using h8), Tr.run_false (by simpa using h8), Tr.run_guard hd, Tr.run_guard hv, Tr.run_guard hd, Tr.run_guard hv, Tr.run_guard (by trivial), Tr.run_guard (by simp only [sl_len_waits, List.length_singleton]; omega), Tr.run_leaf,
                  i64_in (x := s.Validators.Tokens.get v - _) (by unfold worth at hm; omega) (by unfold worth at hm; omega), i64_in (x := s.Validators.Shares.get v - k) (by omega) (by omega), i64_in (x := A46.get s.Shares d v - k) (by omega) (by omega), i64_in (x := s.Next + 1) (by omega) (by omega)]
                rfl
              · rw [if_pos h8, Tr.run_true (by simpa using h8), Tr.run_leaf]
  · rw [if_pos h0, Tr.run_true (by simpa using h0), Tr.run_leaf]

theorem pl_refUndelegate {s : Stake} {d v k : Int} {w : Wait} (hk : k ≤ 9223372036854775807) : sh_ref_Undelegate s d v k w = some (undelegateS s d v k w) := by
  rw [sh_ref_Undelegate, T_ref_Undelegate, Tr.run_bind (pl_some _ _ _)]
  unfold undelegateS
  by_cases h0 : knownS s d v = 0
  · obtain ⟨hg, hd, hv⟩ := known_ok h0
    obtain ⟨⟨hT, hS, hL, h4, h5⟩, _, _⟩ := hg.at hv
    have hsh := hg.shr hd hv
    have hle := shares_le hg hd hv
    have hN := hg.2.1
    rw [if_neg (by simpa using h0), Tr.run_false (by simpa using h0)]
    by_cases h1 : k < 1 ∨ 1125899906842624 < k ∨ w.Height < 0 ∨ w.Due < 0
    · rw [if_pos h1, Tr.run_true (by simpa [or_assoc] using h1), Tr.run_leaf]
    · rw [if_neg h1, Tr.run_false (by simp only [Bool.or_eq_false_iff, decide_eq_false_iff_not]; omega), Tr.run_guard hd, Tr.run_guard hv]
      by_cases h2 : A46.get s.Shares d v < k
      · rw [if_pos h2, Tr.run_true (by simpa using h2), Tr.run_leaf]
      · rw [if_neg h2, Tr.run_false (by simpa using h2)]
        by_cases h3 : 60 ≤ s.Waits.length ∨ 1125899906842624 ≤ s.Next
        · rw [if_pos h3, Tr.run_true (by simp only [Bool.or_eq_true, beq_iff_eq]; omega), Tr.run_leaf]
        · rw [if_neg h3, Tr.run_false (by simp only [Bool.or_eq_false_iff, beq_eq_false_iff_ne]; omega), Tr.run_guard hv]
          have hm := mulDivP_nn k (s.Validators.Tokens.get v) (s.Validators.Shares.get v)
          have hlen : s.Waits.length * 64 ≤ 140737488351232 := by omega
          rw [Tr.run_bind (pl_refMulDiv (a := k) (b := s.Validators.Tokens.get v) (c := s.Validators.Shares.get v) (by omega) (by omega) (by omega))]
          change 0 ≤ worth s v k ∧ worth s v k ≤ 1125899906842624 at hm
          change Tr.run (.ite (decide (worth s v k < 1)) _ (.bind (sh_ref_Unbond s.Bank (worth s v k)) _)) = _
          by_cases h7 : worth s v k < 1
          · rw [if_pos h7, Tr.run_true (by simpa using h7), Tr.run_leaf]
          · rw [if_neg h7, Tr.run_false (by simpa using h7), Tr.run_bind pl_refUnbond]
            by_cases h8 : (moveB s.Bank 4 5 (worth s v k)).2 = 0
            · rw [if_neg (by simpa using h8), Tr.run_false (by simpa using h8), Tr.run_bind (pl_copyS_o hlen)]
              iterate 4 rw [Tr.run_guard hv]
              rw [Tr.run_guard hd, Tr.run_guard hv, Tr.run_guard hd, Tr.run_guard hv, Tr.run_guard (by simp only [sl_len_waits, List.length_singleton]; omega), Tr.run_leaf,
                i64_in (x := s.Validators.Tokens.get v - _) (by unfold worth at hm; omega) (by unfold worth at hm; omega), i64_in (x := s.Validators.Shares.get v - k) (by omega) (by omega), i64_in (x := A46.get s.Shares d v - k) (by omega) (by omega), i64_in (x := s.Next + 1) (by omega) (by omega)]
              rfl
            · rw [if_pos h8, Tr.run_true (by simpa using h8), Tr.run_leaf]
  · rw [if_pos h0, Tr.run_true (by simpa using h0), Tr.run_leaf]

/-! Jail, Unjail, Bury. -/

def judgedS (s : Stake) (v : Int) (j d : Bool) : Stake := { s with Validators := { s.Validators with Jailed := s.Validators.Jailed.set v j, Dead := s.Validators.Dead.set v d } }
def judgeS (s : Stake) (v what : Int) : Stake × Int :=
  if knownS s 0 v ≠ 0 then (s, knownS s 0 v) else if what = 0 ∧ s.Validators.Jailed.get v = true then (s, 14) else if 0 < what ∧ s.Validators.Dead.get v = true then (s, 15)
  else if what = 1 ∧ s.Validators.Jailed.get v = false then (s, 4) else (judgedS s v (what != 1) (what == 2), 0)

theorem A6_set_same {α : Type} {a : A6 α} {v : Int} {x : α} (hv : 0 ≤ v ∧ v < 6) (h : a.get v = x) : a.set v x = a := by
  subst h
  obtain rfl | rfl | rfl | rfl | rfl | rfl : v = 0 ∨ v = 1 ∨ v = 2 ∨ v = 3 ∨ v = 4 ∨ v = 5 := by omega
  all_goals rfl

theorem pl_Judge {s : Stake} {v what : Int} : sh_ref_Judge s v what = some (judgeS s v what) := by
  rw [sh_ref_Judge, T_ref_Judge, Tr.run_bind (pl_some _ _ _)]
  unfold judgeS
  by_cases h0 : knownS s 0 v = 0
  · obtain ⟨hg, hd, hv⟩ := known_ok h0
    rw [if_neg (by simpa using h0), Tr.run_false (by simpa using h0), Tr.run_guard hv, Tr.run_bind (pl_copyS hg.fit)]
    by_cases h1 : what = 0 ∧ s.Validators.Jailed.get v = true
    · rw [if_pos h1, Tr.run_true (by simpa using h1), Tr.run_leaf]
    · rw [if_neg h1, Tr.run_false (by rw [Bool.eq_false_iff]; intro k; apply h1; simpa using k)]
      by_cases h2 : 0 < what ∧ s.Validators.Dead.get v = true
      · rw [if_pos h2, Tr.run_true (by simpa using h2), Tr.run_leaf]
      · rw [if_neg h2, Tr.run_false (by rw [Bool.eq_false_iff]; intro k; apply h2; simpa using k)]
        by_cases h3 : what = 1 ∧ s.Validators.Jailed.get v = false
        · rw [if_pos h3, Tr.run_true (by simpa using h3), Tr.run_leaf]
        · rw [if_neg h3, Tr.run_false (by rw [Bool.eq_false_iff]; intro k; apply h3; simpa using k), Tr.run_guard hv, Tr.run_guard hv, Tr.run_leaf]
          rfl
  · rw [if_pos h0, Tr.run_true (by simpa using h0), Tr.run_leaf]

theorem dead_jailed {s : Stake} (h : GoodS s) {v : Int} (hv : 0 ≤ v ∧ v < 6) (hj : s.Validators.Jailed.get v = false) : s.Validators.Dead.get v = false := by
  have := (h.at hv).1.2.2.2.2
  cases hd : s.Validators.Dead.get v
  · rfl
  · exact absurd ⟨hd, hj⟩ this

theorem pl_Jail {s : Stake} {v : Int} : sh_stake_Jail s v = some (judgeS s v 0) := by
  rw [sh_stake_Jail, T_stake_Jail, Tr.run_bind (pl_known _ _ _)]
  unfold judgeS
  by_cases h0 : knownS s 0 v = 0
  · obtain ⟨hg, hd, hv⟩ := known_ok h0
    rw [if_neg (by simpa using h0), Tr.run_false (by simpa using h0), Tr.run_guard hv]
    by_cases h1 : s.Validators.Jailed.get v = true
    · rw [if_pos ⟨rfl, h1⟩, Tr.run_true h1, Tr.run_leaf]
    · have e : s.Validators.Dead.set v false = s.Validators.Dead := A6_set_same hv (dead_jailed hg hv (by simpa using h1))
      rw [if_neg (fun h => h1 h.2), Tr.run_false (by simpa using h1), Tr.run_guard hv, Tr.run_leaf, if_neg (by simp), if_neg (by simp)]
      unfold judgedS
      show _ = some (({ s with Validators := { s.Validators with Jailed := s.Validators.Jailed.set v true, Dead := s.Validators.Dead.set v false } } : Stake), (0 : Int))
      rw [e]
  · rw [if_pos h0, Tr.run_true (by simpa using h0), Tr.run_leaf]

theorem pl_Unjail {s : Stake} {v : Int} : sh_stake_Unjail s v = some (judgeS s v 1) := by
  rw [sh_stake_Unjail, T_stake_Unjail, Tr.run_bind (pl_known _ _ _)]
  unfold judgeS
  by_cases h0 : knownS s 0 v = 0
  · obtain ⟨hg, hd, hv⟩ := known_ok h0
    rw [if_neg (by simpa using h0), Tr.run_false (by simpa using h0), Tr.run_guard hv, if_neg (by simp)]
    by_cases h1 : s.Validators.Dead.get v = true
    · rw [if_pos ⟨by omega, h1⟩, Tr.run_true h1, Tr.run_leaf]
    · have e : s.Validators.Dead.set v false = s.Validators.Dead := A6_set_same hv (by simpa using h1)
      rw [if_neg (fun h => h1 h.2), Tr.run_false (by simpa using h1)]
      by_cases h2 : s.Validators.Jailed.get v = false
      · rw [if_pos ⟨rfl, h2⟩, Tr.run_true (by simpa using h2), Tr.run_leaf]
      · rw [if_neg (fun h => h2 h.2), Tr.run_false (by simpa using h2), Tr.run_leaf]
        unfold judgedS
        show _ = some (({ s with Validators := { s.Validators with Jailed := s.Validators.Jailed.set v false, Dead := s.Validators.Dead.set v false } } : Stake), (0 : Int))
        rw [e]
  · rw [if_pos h0, Tr.run_true (by simpa using h0), Tr.run_leaf]

theorem pl_Bury {s : Stake} {v : Int} : sh_stake_Bury s v = some (judgeS s v 2) := by
  rw [sh_stake_Bury, T_stake_Bury, Tr.run_bind (pl_known _ _ _)]
  unfold judgeS
  by_cases h0 : knownS s 0 v = 0
  · obtain ⟨hg, hd, hv⟩ := known_ok h0
    rw [if_neg (by simpa using h0), Tr.run_false (by simpa using h0), Tr.run_guard hv, if_neg (by simp)]
    by_cases h1 : s.Validators.Dead.get v = true
    · rw [if_pos ⟨by omega, h1⟩, Tr.run_true h1, Tr.run_leaf]
    · rw [if_neg (fun h => h1 h.2), Tr.run_false (by simpa using h1), Tr.run_guard hv, Tr.run_guard hv, if_neg (by simp), Tr.run_leaf]
      rfl
  · rw [if_pos h0, Tr.run_true (by simpa using h0), Tr.run_leaf]

end Go.Proofs.Ytbpehnghffljiaa.Ab
