/-
  The laws of products and quotients, with no program in sight.
-/
import Derived.Test.YtbpehnghffljiaaFRatio
import Derived.Test.YtbpehnghffljiaaPlRatio2
namespace Go.Proofs.Ytbpehnghffljiaa.Ab
open Go Go.RowKit
set_option linter.unusedVariables false
set_option linter.unusedSimpArgs false

def mulDivP (a b c : Int) : Int × Int := if a < 0 ∨ b < 0 ∨ c < 1 then (0, 2) else if 1125899906842624 < a * b / c then (0, 2) else (a * b / c, 0)

theorem pl_MulDiv {a b c : Int} (ha : a ≤ 9223372036854775807) (hb : b ≤ 9223372036854775807) (hc : c ≤ 9223372036854775807) : sh_ratio_MulDiv a b c = some (mulDivP a b c) := by
  rw [sh_ratio_MulDiv, T_ratio_MulDiv]
  unfold mulDivP
  by_cases h : a < 0 ∨ b < 0 ∨ c < 1
  · rw [if_pos h, Tr.run_true (by simpa [or_assoc] using h), Tr.run_leaf]
  · rw [if_neg h, Tr.run_false (by rw [Bool.eq_false_iff]; intro k; apply h; simpa [or_assoc] using k)]
    obtain ⟨x, rfl⟩ := Int.eq_ofNat_of_zero_le (show 0 ≤ a by omega)
    obtain ⟨y, rfl⟩ := Int.eq_ofNat_of_zero_le (show 0 ≤ b by omega)
    obtain ⟨z, rfl⟩ := Int.eq_ofNat_of_zero_le (show 0 ≤ c by omega)
    rw [u64_lt (by omega), u64_lt (by omega), u64_lt (n := z) (by omega), Tr.run_bind (pl_Mul64 (by omega) (by omega)), ← Int.natCast_mul, ← Int.natCast_ediv]
    simp only []
    obtain ⟨p, hp⟩ : ∃ p, p = x * y := ⟨_, rfl⟩
    rw [← hp]
    have e1 := Nat.div_add_mod p 18446744073709551616
    by_cases h1 : p / 18446744073709551616 ≥ z
    · rw [Tr.run_true (by simp; omega), Tr.run_leaf, if_pos]
      have : 1125899906842625 ≤ p / z := by
        rw [Nat.le_div_iff_mul_le (by omega)]
        omega
      omega
    · obtain ⟨r, e⟩ := pl_Div64 (h := p / 18446744073709551616) (l := p % 18446744073709551616) (y := z) (by omega) (Nat.mod_lt _ (by omega)) (by omega)
      rw [Nat.mul_comm, e1] at e
      rw [Tr.run_false (by simp; omega), Tr.run_bind e]
      simp only []
      obtain ⟨w, hw⟩ : ∃ w, w = p / z := ⟨_, rfl⟩
      rw [← hw]
      by_cases h2 : 1125899906842624 < w
      · rw [Tr.run_true (by simp; omega), Tr.run_leaf, if_pos (by omega)]
      · rw [Tr.run_false (by simp; omega), Tr.run_leaf, if_neg (by omega), i64_in (by omega) (by omega)]

theorem pl_refMulDiv {a b c : Int} (ha : a ≤ 9223372036854775807) (hb : b ≤ 9223372036854775807) (hc : c ≤ 9223372036854775807) : sh_ref_MulDiv a b c = some (mulDivP a b c) := by
  rw [sh_ref_MulDiv, T_ref_MulDiv]
  unfold mulDivP
  by_cases h : a < 0 ∨ b < 0 ∨ c < 1
  · rw [if_pos h, Tr.run_true (by simpa [or_assoc] using h), Tr.run_leaf]
  · rw [if_neg h, Tr.run_false (by rw [Bool.eq_false_iff]; intro k; apply h; simpa [or_assoc] using k)]
    obtain ⟨n, rfl⟩ := Int.eq_ofNat_of_zero_le (show 0 ≤ a by omega)
    have hb0 : 0 ≤ b := by omega
    have hc0 : 0 < c := by omega
    obtain ⟨r, h1, h2⟩ := iter_upto (F := fun s : Int × Int × Int × Int × Int × Int => (T_ref_MulDiv_l1 s.1 s.2.1 s.2.2.1 s.2.2.2.1 s.2.2.2.2.1 s.2.2.2.2.2).run) 63
      (fun i (t : Int × Int) => ((n : Int), b, c, t.1, t.2, 62 - (i : Int)))
      (fun i t => 0 ≤ t.1 ∧ t.1 ≤ 1125899906842624 ∧ 0 ≤ t.2 ∧ t.2 < c ∧ ((n / 2 ^ (63 - i) : Nat) : Int) * b = t.1 * c + t.2)
      (fun i t r => match r with | .inl v => v = (0, 2) ∧ 1125899906842624 < (n : Int) * b / c | .inr x => x = (n : Int) * b / c ∧ x ≤ 1125899906842624) (by
        rintro ⟨q, r⟩ ⟨i1, i2, i3, i4, i5⟩
        simp only at i1 i2 i3 i4 i5
        refine ⟨.inr q, ?_, ?_, i2⟩
        · simp only [T_ref_MulDiv_l1]
          rw [Tr.run_false (by simp), Tr.run_leaf]
        · rw [Nat.sub_self, Nat.pow_zero, Nat.div_one] at i5
          rw [i5, Int.add_comm, Int.add_mul_ediv_right _ _ (by omega), Int.ediv_eq_zero_of_lt i3 i4, Int.zero_add]) (by
        rintro i ⟨q, r⟩ hi ⟨i1, i2, i3, i4, i5⟩
        simp only at i1 i2 i3 i4 i5
        have hm : n / 2 ^ (63 - i) = n / 2 ^ (62 - i) / 2 := by rw [Nat.div_div_eq_div_mul, ← Nat.pow_succ, show (62 - i).succ = 63 - i by omega]
        have hmle : n / 2 ^ (62 - i) ≤ n := Nat.div_le_self _ _
        rw [hm] at i5
        have hw : IntKind.u64.wrap (62 - (i : Int)) = ((62 - i : Nat) : Int) := by rw [u64_wrap]; omega
        have hk : min (62 - i) 64 = 62 - i := by omega
        have hbd := Int.mul_ediv_add_emod b c
        rw [Int.mul_comm c (b / c)] at hbd
        have hbm := Int.emod_nonneg b (show c ≠ 0 by omega)
        have hbl := Int.emod_lt_of_pos b hc0
        have hbq : 0 ≤ b / c := Int.ediv_nonneg hb0 (by omega)
        have hbq2 : b / c ≤ b := Int.ediv_le_self _ hb0
        obtain ⟨m, em⟩ : ∃ m, m = n / 2 ^ (62 - i) := ⟨_, rfl⟩
        rw [← em] at i5 hmle
        have fin : ∀ {W Q r' : Int}, W = IntKind.i64.wrap Q → 0 ≤ Q → Q < 18446744073709551616 → 0 ≤ r' → r' < c → (m : Int) * b = Q * c + r' →
            (∃ t' : Int × Int, (Tr.ite ((decide (W > 1125899906842624)) || (decide (W < 0))) (.leaf (.inr (.inl (0, 2)))) (.leaf (.inl ((n : Int), b, c, W, r', IntKind.i64.wrap (62 - (i : Int) - 1)))) : Tr ((Int × Int × Int × Int × Int × Int) ⊕ ((Int × Int) ⊕ (Int)))).run = some (.inl ((n : Int), b, c, t'.1, t'.2, 62 - ((i + 1 : Nat) : Int))) ∧
              (0 ≤ t'.1 ∧ t'.1 ≤ 1125899906842624 ∧ 0 ≤ t'.2 ∧ t'.2 < c ∧ ((n / 2 ^ (63 - (i + 1)) : Nat) : Int) * b = t'.1 * c + t'.2)) ∨
            ∃ v, (Tr.ite ((decide (W > 1125899906842624)) || (decide (W < 0))) (.leaf (.inr (.inl (0, 2)))) (.leaf (.inl ((n : Int), b, c, W, r', IntKind.i64.wrap (62 - (i : Int) - 1)))) : Tr ((Int × Int × Int × Int × Int × Int) ⊕ ((Int × Int) ⊕ (Int)))).run = some (.inr (.inl v)) ∧ v = (0, 2) ∧ 1125899906842624 < (n : Int) * b / c := by
          intro W Q r' e1 e2 e3 e4 e5 e6
          by_cases hQ : Q ≤ 1125899906842624
          · refine .inl ⟨(Q, r'), ?_, e2, hQ, e4, e5, ?_⟩
            · rw [i64_in (by omega) (by omega)] at e1
              rw [e1, Tr.run_false (by simp; omega), Tr.run_leaf, i64_in (by omega) (by omega), show (62 : Int) - (i : Int) - 1 = 62 - ((i + 1 : Nat) : Int) by omega]
            · rw [show 63 - (i + 1) = 62 - i by omega, ← em]; exact e6
          · refine .inr ⟨_, by rw [Tr.run_true (by rw [e1, IntKind.wrap_i64]; simp; omega), Tr.run_leaf], rfl, ?_⟩
            have g1 : (m : Int) * b ≤ (n : Int) * b := Int.mul_le_mul_of_nonneg_right (by omega) hb0
            have g2 : Q ≤ (n : Int) * b / c := by
              rw [Int.le_ediv_iff_mul_le hc0]; omega
            omega
        have conv : ∀ {F : Tr ((Int × Int × Int × Int × Int × Int) ⊕ ((Int × Int) ⊕ (Int)))}, (∃ t' : Int × Int, F.run = some (.inl ((n : Int), b, c, t'.1, t'.2, 62 - ((i + 1 : Nat) : Int))) ∧
              (0 ≤ t'.1 ∧ t'.1 ≤ 1125899906842624 ∧ 0 ≤ t'.2 ∧ t'.2 < c ∧ ((n / 2 ^ (63 - (i + 1)) : Nat) : Int) * b = t'.1 * c + t'.2)) ∨
            (∃ v, F.run = some (.inr (.inl v)) ∧ v = (0, 2) ∧ 1125899906842624 < (n : Int) * b / c) →
            (∃ t' : Int × Int, F.run = some (.inl ((n : Int), b, c, t'.1, t'.2, 62 - ((i + 1 : Nat) : Int))) ∧
              (0 ≤ t'.1 ∧ t'.1 ≤ 1125899906842624 ∧ 0 ≤ t'.2 ∧ t'.2 < c ∧ ((n / 2 ^ (63 - (i + 1)) : Nat) : Int) * b = t'.1 * c + t'.2) ∧
              ∀ r : ((Int × Int) ⊕ (Int)), (match r with | .inl v => v = (0, 2) ∧ 1125899906842624 < (n : Int) * b / c | .inr x => x = (n : Int) * b / c ∧ x ≤ 1125899906842624) → (match r with | .inl v => v = (0, 2) ∧ 1125899906842624 < (n : Int) * b / c | .inr x => x = (n : Int) * b / c ∧ x ≤ 1125899906842624)) ∨
            ∃ r : ((Int × Int) ⊕ (Int)), F.run = some (.inr r) ∧ (match r with | .inl v => v = (0, 2) ∧ 1125899906842624 < (n : Int) * b / c | .inr x => x = (n : Int) * b / c ∧ x ≤ 1125899906842624) := by
          intro F hF
          rcases hF with ⟨t', f1, f2⟩ | ⟨v, f1, f2⟩
          · exact .inl ⟨t', f1, f2, fun r hr => hr⟩
          · exact .inr ⟨.inl v, f1, f2⟩
        apply conv
        have hmd : (m : Int) = 2 * ((m / 2 : Nat) : Int) + ((m % 2 : Nat) : Int) := by omega
        have hmb : (m : Int) * b = 2 * (((m / 2 : Nat) : Int) * b) + ((m % 2 : Nat) : Int) * b := by
          conv => lhs; rw [hmd]
          rw [Int.add_mul, Int.mul_assoc]
        simp only [T_ref_MulDiv_l1, hw, Int.toNat_natCast, hk, fdiv_nat, ← em]
        rw [tmod_nn (x := (m : Int)) (by omega), tdiv_nn hb0, tmod_nn hb0, i64_in (x := c - r) (by omega) (by omega), i64_in (x := c - b % c) (by omega) (by omega), Tr.run_true (by simp; omega)]
        by_cases c1 : r ≥ c - r
        · rw [Tr.run_true (by simpa using c1), Tr.run_guard (by omega), Tr.run_guard (by omega), i64_in (x := r - (c - r)) (by omega) (by omega)]
          by_cases c2 : m % 2 = 1
          · rw [c2] at hmb
            rw [Tr.run_true (by simp; omega), Tr.run_guard (by omega), Tr.run_guard (by omega)]
            by_cases c3 : r - (c - r) ≥ c - b % c
            · rw [Tr.run_true (by simpa using c3), i64_in (x := r - (c - r) - (c - b % c)) (by omega) (by omega)]
              refine fin (Q := 2 * q + 1 + b / c + 1) (by simp only [IntKind.wrap_i64]; omega) (by omega) (by omega) (by omega) (by omega) ?_
              rw [hmb, i5]; simp only [Int.add_mul, Int.mul_assoc, Int.one_mul]
              clear hmd hm em; omega
            · rw [Tr.run_false (by simpa using c3), i64_in (x := r - (c - r) + b % c) (by omega) (by omega)]
              refine fin (Q := 2 * q + 1 + b / c) (by simp only [IntKind.wrap_i64]; omega) (by omega) (by omega) (by omega) (by omega) ?_
              rw [hmb, i5]; simp only [Int.add_mul, Int.mul_assoc, Int.one_mul]
              clear hmd hm em; omega
          · rw [show m % 2 = 0 by omega] at hmb
            rw [Tr.run_false (by simp; omega)]
            refine fin (Q := 2 * q + 1) (by simp only [IntKind.wrap_i64]; omega) (by omega) (by omega) (by omega) (by omega) ?_
            rw [hmb, i5]; simp only [Int.add_mul, Int.mul_assoc, Int.one_mul]
            clear hmd hm em; omega
        · rw [Tr.run_false (by simpa using c1), Tr.run_guard (by omega), Tr.run_guard (by omega), i64_in (x := r + r) (by omega) (by omega)]
          by_cases c2 : m % 2 = 1
          · rw [c2] at hmb
            rw [Tr.run_true (by simp; omega), Tr.run_guard (by omega), Tr.run_guard (by omega)]
            by_cases c3 : r + r ≥ c - b % c
            · rw [Tr.run_true (by simpa using c3), i64_in (x := r + r - (c - b % c)) (by omega) (by omega)]
              refine fin (Q := 2 * q + b / c + 1) (by simp only [IntKind.wrap_i64]; omega) (by omega) (by omega) (by omega) (by omega) ?_
              rw [hmb, i5]; simp only [Int.add_mul, Int.mul_assoc, Int.one_mul]
              clear hmd hm em; omega
            · rw [Tr.run_false (by simpa using c3), i64_in (x := r + r + b % c) (by omega) (by omega)]
              refine fin (Q := 2 * q + b / c) (by simp only [IntKind.wrap_i64]; omega) (by omega) (by omega) (by omega) (by omega) ?_
              rw [hmb, i5]; simp only [Int.add_mul, Int.mul_assoc, Int.one_mul]
              clear hmd hm em; omega
          · rw [show m % 2 = 0 by omega] at hmb
            rw [Tr.run_false (by simp; omega)]
            refine fin (Q := 2 * q) rfl (by omega) (by omega) (by omega) (by omega) ?_
            rw [hmb, i5]; simp only [Int.add_mul, Int.mul_assoc, Int.one_mul]
            clear hmd hm em; omega) 0 (0, 0) (by omega)
      ⟨by simp, by simp, by simp, by simpa using hc0, by rw [Nat.sub_zero, Nat.div_eq_of_lt (by omega)]; simp⟩
    have h1 : sh_ref_MulDiv_l1 n b c 0 0 62 = some r := h1
    cases r with
    | inl v => rw [Tr.run_inl h1, Tr.run_leaf, if_pos h2.2, h2.1]
    | inr x => rw [Tr.run_inr h1, Tr.run_leaf, if_neg (by rw [← h2.1]; exact Int.not_lt.2 h2.2), h2.1]

theorem pl_In (n : Int) : sh_ratio_In n = some (decide (0 ≤ n ∧ n ≤ 1125899906842624)) := by
  rw [sh_ratio_In, T_ratio_In, Tr.run_leaf, Bool.decide_and]
theorem pl_refIn (n : Int) : sh_ref_In n = some (decide (0 ≤ n ∧ n ≤ 1125899906842624)) := by
  rw [sh_ref_In, T_ref_In, Tr.run_leaf, Bool.decide_and]

theorem mulDivP_ok {a b c : Int} (h : (mulDivP a b c).2 = 0) : 0 ≤ a ∧ 0 ≤ b ∧ 1 ≤ c ∧ mulDivP a b c = (a * b / c, 0) ∧ a * b / c ≤ 1125899906842624 := by
  unfold mulDivP at h ⊢
  by_cases h1 : a < 0 ∨ b < 0 ∨ c < 1
  · rw [if_pos h1] at h; cases h
  · rw [if_neg h1] at h ⊢
    by_cases h2 : 1125899906842624 < a * b / c
    · rw [if_pos h2] at h; cases h
    · rw [if_neg h2]
      exact ⟨by omega, by omega, by omega, rfl, by omega⟩

theorem mulDivP_bad {a b c : Int} (h : (mulDivP a b c).2 ≠ 0) : mulDivP a b c = (0, 2) := by
  unfold mulDivP at h ⊢
  by_cases h1 : a < 0 ∨ b < 0 ∨ c < 1
  · rw [if_pos h1]
  · rw [if_neg h1] at h ⊢
    by_cases h2 : 1125899906842624 < a * b / c
    · rw [if_pos h2]
    · rw [if_neg h2] at h; exact absurd rfl h

theorem part_eq {n f : Int} (hn : 0 ≤ n) (hn' : n ≤ 1125899906842624) (hf : 0 ≤ f) (hf' : f ≤ 1000) : mulDivP n f 1000 = (n * f / 1000, 0) ∧ 0 ≤ n * f ∧ n * f ≤ 1000 * n := by
  have h1 : 0 ≤ n * f := Int.mul_nonneg hn hf
  have h2 : n * f ≤ n * 1000 := Int.mul_le_mul_of_nonneg_left hf' hn
  unfold mulDivP
  rw [if_neg (by omega), if_neg (by omega)]
  exact ⟨rfl, h1, by omega⟩

def partP (n f : Int) : Int × Int := if n < 0 ∨ 1125899906842624 < n ∨ f < 0 ∨ 1000 < f then (0, 2) else (n * f / 1000, 0)

theorem pl_Part {n f : Int} : sh_ratio_Part n f = some (partP n f) := by
  rw [sh_ratio_Part, T_ratio_Part, Tr.run_bind (pl_In n)]
  unfold partP
  by_cases h : n < 0 ∨ 1125899906842624 < n ∨ f < 0 ∨ 1000 < f
  · rw [if_pos h, Tr.run_true (by simp; omega), Tr.run_leaf]
  · rw [if_neg h, Tr.run_false (by simp; omega), Tr.run_bind (pl_MulDiv (by omega) (by omega) (by omega)), Tr.run_leaf, (part_eq (by omega) (by omega) (by omega) (by omega)).1]

theorem pl_refPart {n f : Int} : sh_ref_Part n f = some (partP n f) := by
  rw [sh_ref_Part, T_ref_Part, Tr.run_bind (pl_refIn n)]
  unfold partP
  by_cases h : n < 0 ∨ 1125899906842624 < n ∨ f < 0 ∨ 1000 < f
  · rw [if_pos h, Tr.run_true (by simp; omega), Tr.run_leaf]
  · rw [if_neg h, Tr.run_false (by simp; omega), Tr.run_guard (by omega), Tr.run_guard (by omega), Tr.run_guard (by omega), Tr.run_leaf]
    have hn : 0 ≤ n := by omega
    rw [tdiv_nn hn, tmod_nn hn, i64_in (x := n / 1000) (by omega) (by omega)]
    have h1 : 0 ≤ n / 1000 * f := Int.mul_nonneg (by omega) (by omega)
    have h2 : n / 1000 * f ≤ n / 1000 * 1000 := Int.mul_le_mul_of_nonneg_left (by omega) (by omega)
    have h3 : 0 ≤ n % 1000 * f := Int.mul_nonneg (by omega) (by omega)
    have h4 : n % 1000 * f ≤ n % 1000 * 1000 := Int.mul_le_mul_of_nonneg_left (by omega) (by omega)
    have h5 : n * f = 1000 * (n / 1000 * f) + n % 1000 * f := by
      conv => lhs; rw [← Int.mul_ediv_add_emod n 1000]
      rw [Int.add_mul, Int.mul_assoc]
    obtain ⟨x, hx⟩ : ∃ x, x = n / 1000 * f := ⟨_, rfl⟩
    obtain ⟨y, hy⟩ : ∃ y, y = n % 1000 * f := ⟨_, rfl⟩
    rw [← hx, ← hy] at h5
    rw [← hx] at h1 h2
    rw [← hy] at h3 h4
    rw [← hx, ← hy, h5, i64_in (x := x) (by omega) (by omega), i64_in (x := y) (by omega) (by omega), tdiv_nn h3, i64_in (x := y / 1000) (by omega) (by omega), i64_in (by omega) (by omega)]
    congr 2
    clear hx hy h5
    omega

theorem mulDivP_comm (a b c : Int) : mulDivP b a c = mulDivP a b c := by
  unfold mulDivP
  rw [Int.mul_comm b a]
  by_cases h : a < 0 ∨ b < 0 ∨ c < 1
  · rw [if_pos h, if_pos (by omega)]
  · rw [if_neg h, if_neg (show ¬ (b < 0 ∨ a < 0 ∨ c < 1) by omega)]

end Go.Proofs.Ytbpehnghffljiaa.Ab
