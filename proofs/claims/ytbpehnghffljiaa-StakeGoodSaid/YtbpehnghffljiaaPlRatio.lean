/-
  Products and quotients, with no program in sight: Mul64 and Div64 are exact; MulDiv, twice told, is the same.
-/
import Derived.Test.YtbpehnghffljiaaPlBase
import Derived.Test.YtbpehnghffljiaaFRatio
import Derived.Test.YtbpehnghffljiaaAbOpen
namespace Go.Proofs.Ytbpehnghffljiaa.Ab
open Go Go.RowKit
set_option linter.unusedVariables false
set_option linter.unusedSimpArgs false

theorem u64_wrap (y : Int) : IntKind.u64.wrap y = y % 18446744073709551616 := by
  unfold IntKind.wrap
  simp [IntKind.bits, IntKind.signed]
theorem u8w (y : Int) : IntKind.u8.wrap y = y % 256 := by
  unfold IntKind.wrap
  simp [IntKind.bits, IntKind.signed]
theorem u64_nat (n : Nat) : IntKind.u64.wrap ((n : Nat) : Int) = ((n % 18446744073709551616 : Nat) : Int) := by rw [u64_wrap]; omega
theorem u64_lt {n : Nat} (h : n < 18446744073709551616) : IntKind.u64.wrap ((n : Nat) : Int) = ((n : Nat) : Int) := by rw [u64_wrap]; omega
theorem fdiv_nat (n k : Nat) : Int.fdiv (n : Int) (2 ^ k) = ((n / 2 ^ k : Nat) : Int) := by
  rw [Int.fdiv_eq_ediv_of_nonneg _ (Int.le_of_lt (Int.pow_pos (by omega))), Int.natCast_ediv, Int.natCast_pow]; rfl
theorem and_mask (n : Nat) : (BitVec.ofInt 64 (n : Int) &&& BitVec.ofInt 64 4294967295).toNat = n % 4294967296 := by
  rw [BitVec.ofInt_natCast, show (4294967295 : Int) = ((4294967295 : Nat) : Int) from rfl, BitVec.ofInt_natCast, BitVec.toNat_and, BitVec.toNat_ofNat, BitVec.toNat_ofNat]
  rw [show 4294967295 % 2 ^ 64 = 2 ^ 32 - 1 by decide, Nat.and_two_pow_sub_one_eq_mod]
  omega

theorem prod_lt {x y : Nat} (hx : x < 4294967296) (hy : y < 4294967296) : x * y ≤ 18446744065119617025 := by
  have := Nat.mul_le_mul (show x ≤ 4294967295 by omega) (show y ≤ 4294967295 by omega)
  omega

theorem pl_Mul64 {a b : Nat} (ha : a < 18446744073709551616) (hb : b < 18446744073709551616) :
    sh_math_bits_Mul64 a b = some (((a * b / 18446744073709551616 : Nat) : Int), ((a * b % 18446744073709551616 : Nat) : Int)) := by
  rw [sh_math_bits_Mul64, T_math_bits_Mul64]
  iterate 5 rw [Tr.run_guard (by omega)]
  rw [Tr.run_leaf]
  simp only [fdiv_nat, and_mask, u64_nat, ← Int.natCast_mul, ← Int.natCast_add]
  have hx : a = 4294967296 * (a / 4294967296) + a % 4294967296 := by omega
  have hy : b = 4294967296 * (b / 4294967296) + b % 4294967296 := by omega
  rw [show (2 : Nat) ^ 32 = 4294967296 by decide]
  generalize hx1 : a / 4294967296 = x1 at *
  generalize hx0 : a % 4294967296 = x0 at *
  generalize hy1 : b / 4294967296 = y1 at *
  generalize hy0 : b % 4294967296 = y0 at *
  have p11 := prod_lt (x := x1) (y := y1) (by omega) (by omega)
  have p10 := prod_lt (x := x1) (y := y0) (by omega) (by omega)
  have p01 := prod_lt (x := x0) (y := y1) (by omega) (by omega)
  have p00 := prod_lt (x := x0) (y := y0) (by omega) (by omega)
  have hp : a * b = 18446744073709551616 * (x1 * y1) + 4294967296 * (x1 * y0) + 4294967296 * (x0 * y1) + x0 * y0 := by
    rw [hx, hy, Nat.add_mul, Nat.mul_add, Nat.mul_add, Nat.mul_assoc, Nat.mul_assoc, Nat.mul_left_comm x1, Nat.mul_left_comm x0]; omega
  rw [hp, Nat.mod_eq_of_lt (a := x0) (by omega), Nat.mod_eq_of_lt (a := y0) (by omega)]
  generalize x1 * y1 = q11 at *
  generalize x1 * y0 = q10 at *
  generalize x0 * y1 = q01 at *
  generalize x0 * y0 = q00 at *
  congr 3
  omega

/-- The table of lengths of bytes. -/
def lenOk (l : List UInt8) : Bool := (List.range 256).all fun k => k == 0 || (decide (1 ≤ (l.getD k 0).toNat) && decide ((l.getD k 0).toNat ≤ 8) && decide (2 ^ ((l.getD k 0).toNat - 1) ≤ k) && decide (k < 2 ^ (l.getD k 0).toNat))

theorem lenOk_at {l : List UInt8} (h : lenOk l = true) {k : Nat} (h0 : 0 < k) (h1 : k < 256) :
    1 ≤ (l.getD k 0).toNat ∧ (l.getD k 0).toNat ≤ 8 ∧ 2 ^ ((l.getD k 0).toNat - 1) ≤ k ∧ k < 2 ^ (l.getD k 0).toNat := by
  have := List.all_eq_true.1 h k (List.mem_range.2 h1)
  simp only [Bool.or_eq_true, beq_iff_eq, Bool.and_eq_true, decide_eq_true_eq] at this
  rcases this with h | ⟨⟨⟨h2, h3⟩, h4⟩, h5⟩
  · omega
  · exact ⟨h2, h3, h4, h5⟩

/-- Where a number lies between powers, what is behind the point lies too. -/
theorem len_up {n m t : Nat} (h1 : 1 ≤ t) (h2 : 2 ^ (t - 1) ≤ n / 2 ^ m) (h3 : n / 2 ^ m < 2 ^ t) : 2 ^ (m + t - 1) ≤ n ∧ n < 2 ^ (m + t) := by
  constructor
  · have := (Nat.le_div_iff_mul_le (Nat.pow_pos (by omega))).1 h2
    rwa [← Nat.pow_add, show t - 1 + m = m + t - 1 by omega] at this
  · have := (Nat.div_lt_iff_lt_mul (Nat.pow_pos (by omega))).1 h3
    rwa [← Nat.pow_add, Nat.add_comm] at this

theorem len_leaf {l : List UInt8} (h : lenOk l = true) {n m : Nat} (hm : m ≤ 56) (h0 : 0 < n / 2 ^ m) (h1 : n / 2 ^ m < 256) :
    ∃ t : Nat, IntKind.i64.wrap ((m : Int) + IntKind.i64.wrap (((l.getD (IntKind.u8.wrap ((n / 2 ^ m : Nat) : Int)).toNat 0).toNat : Nat) : Int)) = (t : Int) ∧ 1 ≤ t ∧ t ≤ 64 ∧ 2 ^ (t - 1) ≤ n ∧ n < 2 ^ t := by
  have e : (IntKind.u8.wrap ((n / 2 ^ m : Nat) : Int)).toNat = n / 2 ^ m := by rw [u8w]; omega
  rw [e]
  obtain ⟨k1, k2, k3, k4⟩ := lenOk_at h h0 h1
  generalize (l.getD (n / 2 ^ m) 0).toNat = t at *
  obtain ⟨u1, u2⟩ := len_up k1 k3 k4
  refine ⟨m + t, ?_, by omega, by omega, u1, u2⟩
  rw [i64_in (x := (t : Int)) (by omega) (by omega), i64_in (by omega) (by omega)]
  omega

theorem pl_Len64 {n : Nat} (h0 : 0 < n) (h1 : n < 18446744073709551616) : ∃ t : Nat, sh_math_bits_Len64 n = some (t : Int) ∧ 1 ≤ t ∧ t ≤ 64 ∧ 2 ^ (t - 1) ≤ n ∧ n < 2 ^ t := by
  rw [sh_math_bits_Len64, T_math_bits_Len64]
  generalize hl : (⟨List.toArray _⟩ : ByteArray) = tab
  have htab : lenOk tab.data.toList = true := by rw [← hl]; decide +kernel
  have hsz : tab.size = 256 := by rw [← hl]; decide +kernel
  clear hl
  simp only [fdiv_nat, Nat.div_div_eq_div_mul, ← Nat.pow_add, hsz]
  have fin : ∀ {m : Nat} {x : Int}, m ≤ 56 → x = m → 0 < n / 2 ^ m → n / 2 ^ m < 256 → ∃ t : Nat, (Tr.guard ((0 : Int) ≤ IntKind.u8.wrap ((n / 2 ^ m : Nat) : Int) ∧ IntKind.u8.wrap ((n / 2 ^ m : Nat) : Int) < ((256 : Nat) : Int)) (.leaf (IntKind.i64.wrap (x + IntKind.i64.wrap (((tab.data.toList.getD (IntKind.u8.wrap ((n / 2 ^ m : Nat) : Int)).toNat 0).toNat : Nat) : Int))))).run = some (t : Int) ∧ 1 ≤ t ∧ t ≤ 64 ∧ 2 ^ (t - 1) ≤ n ∧ n < 2 ^ t := by
    intro m x hm hx g0 g1
    subst hx
    obtain ⟨t, e, k⟩ := len_leaf htab hm g0 g1
    exact ⟨t, by rw [Tr.run_guard (by rw [u8w]; omega), Tr.run_leaf, e], k⟩
  by_cases c1 : n ≥ 4294967296
  · rw [Tr.run_true (by simp; omega), Tr.run_guard (by omega)]
    by_cases c2 : n / 2 ^ 32 ≥ 65536
    · rw [Tr.run_true (by simp; omega), Tr.run_guard (by omega)]
      by_cases c3 : n / 2 ^ (32 + 16) ≥ 256
      · rw [Tr.run_true (by simp; omega), Tr.run_guard (by omega)]
        exact fin (m := 32 + 16 + 8) (by omega) rfl (by omega) (by omega)
      · rw [Tr.run_false (by simp; omega)]
        exact fin (m := 32 + 16) (by omega) rfl (by omega) (by omega)
    · rw [Tr.run_false (by simp; omega)]
      by_cases c3 : n / 2 ^ 32 ≥ 256
      · rw [Tr.run_true (by simp; omega), Tr.run_guard (by omega)]
        exact fin (m := 32 + 8) (by omega) rfl (by omega) (by omega)
      · rw [Tr.run_false (by simp; omega)]
        exact fin (m := 32) (by omega) rfl (by omega) (by omega)
  · rw [Tr.run_false (by simp; omega)]
    by_cases c2 : n ≥ 65536
    · rw [Tr.run_true (by simp; omega), Tr.run_guard (by omega)]
      by_cases c3 : n / 2 ^ 16 ≥ 256
      · rw [Tr.run_true (by simp; omega), Tr.run_guard (by omega)]
        exact fin (m := 16 + 8) (by omega) rfl (by omega) (by omega)
      · rw [Tr.run_false (by simp; omega)]
        exact fin (m := 16) (by omega) rfl (by omega) (by omega)
    · rw [Tr.run_false (by simp; omega)]
      by_cases c3 : n ≥ 256
      · rw [Tr.run_true (by simp; omega), Tr.run_guard (by omega)]
        exact fin (m := 8) (by omega) rfl (by omega) (by omega)
      · rw [Tr.run_false (by simp; omega)]
        have := fin (m := 0) (x := 0) (by omega) rfl (by simpa using h0) (by simp; omega)
        simpa using this

theorem pl_Lead {n : Nat} (h0 : 0 < n) (h1 : n < 18446744073709551616) : ∃ s : Nat, sh_math_bits_LeadingZeros64 n = some (s : Int) ∧ s ≤ 63 ∧ 9223372036854775808 ≤ n * 2 ^ s ∧ n * 2 ^ s < 18446744073709551616 := by
  obtain ⟨t, e, k1, k2, k3, k4⟩ := pl_Len64 h0 h1
  refine ⟨64 - t, ?_, by omega, ?_, ?_⟩
  · rw [sh_math_bits_LeadingZeros64, T_math_bits_LeadingZeros64, Tr.run_bind e, Tr.run_leaf, i64_in (by omega) (by omega)]
    congr 1; omega
  · have := Nat.mul_le_mul_right (2 ^ (64 - t)) k3
    rw [← Nat.pow_add, show t - 1 + (64 - t) = 63 by omega] at this
    exact this
  · have := Nat.mul_lt_mul_of_pos_right k4 (show 0 < 2 ^ (64 - t) from Nat.pow_pos (by omega))
    rw [← Nat.pow_add, show t + (64 - t) = 64 by omega] at this
    exact this

end Go.Proofs.Ytbpehnghffljiaa.Ab
