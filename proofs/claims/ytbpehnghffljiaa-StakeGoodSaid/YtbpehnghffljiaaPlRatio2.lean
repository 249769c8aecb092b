/-
  Div64 is exact; MulDiv, twice told, is the same: with no program in sight.
-/
import Derived.Test.YtbpehnghffljiaaFRatio
import Derived.Test.YtbpehnghffljiaaPlRatio
namespace Go.Proofs.Ytbpehnghffljiaa.Ab
open Go Go.RowKit
set_option linter.unusedVariables false
set_option linter.unusedSimpArgs false
set_option maxRecDepth 100000

theorem iter_inl' {σ ρ : Type} {F : σ → Option (σ ⊕ ρ)} {s s' : σ} (h : F s = some (.inl s')) : iter F s = iter F s' := by rw [iter_eq, h]
theorem iter_inr' {σ ρ : Type} {F : σ → Option (σ ⊕ ρ)} {s : σ} {r : ρ} (h : F s = some (.inr r)) : iter F s = some r := by rw [iter_eq, h]

/-- What holds while a digit is sought: `y1`, `y0` the divisor's halves, `u` what is divided but for its last digit `d`, `t` the true digit. -/
structure Dig (y1 y0 u d t q r : Nat) : Prop where
  hy1 : 2147483648 ≤ y1
  hy1' : y1 < 4294967296
  hy0 : y0 < 4294967296
  hd : d < 4294967296
  hu : u < y1 * 4294967296 + y0
  t1 : t * (y1 * 4294967296 + y0) ≤ u * 4294967296 + d
  t2 : u * 4294967296 + d < (t + 1) * (y1 * 4294967296 + y0)
  qr : q * y1 + r = u
  hr : r < 4294967296
  hq : t ≤ q
  hq' : q ≤ 4294967297

theorem Dig.small {y1 y0 u d t q r : Nat} (h : Dig y1 y0 u d t q r) : t < 4294967296 := by
  have a := h.hy1; have b := h.hu; have c := h.t1; have e := h.hd
  refine Classical.byContradiction fun hn => ?_
  have := Nat.mul_le_mul_right (y1 * 4294967296 + y0) (show 4294967296 ≤ t by omega)
  omega

/-- The digit is right where the test ends. -/
theorem Dig.done {y1 y0 u d t q r : Nat} (h1 : t * (y1 * 4294967296 + y0) ≤ u * 4294967296 + d) (h2 : u * 4294967296 + d < (t + 1) * (y1 * 4294967296 + y0)) (hqr : q * y1 + r = u) (hq : t ≤ q)
    (hc : q * y0 ≤ r * 4294967296 + d) : q = t := by
  have e : q * (y1 * 4294967296 + y0) ≤ u * 4294967296 + d := by
    rw [Nat.mul_add, ← Nat.mul_assoc]; omega
  refine Classical.byContradiction fun hn => ?_
  have := Nat.mul_le_mul_right (y1 * 4294967296 + y0) (show t + 1 ≤ q by omega)
  omega

/-- Where the test goes on, the digit is too great. -/
theorem Dig.more {y1 y0 u d t q r : Nat} (h : Dig y1 y0 u d t q r) (hc : q ≥ 4294967296 ∨ r * 4294967296 + d < q * y0) : t < q := by
  rcases hc with hc | hc
  · have := h.small; omega
  · have h1 := h.t1; have h3 := h.qr; have h4 := h.hq
    refine Classical.byContradiction fun hn => ?_
    obtain rfl : t = q := by omega
    rw [Nat.mul_add, ← Nat.mul_assoc] at h1
    omega

theorem Dig.brk {y1 y0 u d t q r : Nat} (h : Dig y1 y0 u d t q r) (hlt : t < q) (hr : 4294967296 ≤ r + y1) : q - 1 = t := by
  obtain ⟨p, rfl⟩ : ∃ p, q = p + 1 := ⟨q - 1, by omega⟩
  have h3 := h.qr; have h4 := h.hy0; have h5 := h.hq'
  rw [Nat.succ_mul] at h3
  refine Dig.done (y1 := y1) (y0 := y0) (u := u) (d := d) (r := r + y1) h.t1 h.t2 (by rw [Nat.add_sub_cancel]; omega) (by omega) ?_
  rw [Nat.add_sub_cancel]
  have := Nat.mul_le_mul (show p ≤ 4294967296 by omega) (show y0 ≤ 4294967295 by omega)
  omega

theorem Dig.next {y1 y0 u d t q r : Nat} (h : Dig y1 y0 u d t q r) (hlt : t < q) (hr : r + y1 < 4294967296) : Dig y1 y0 u d t (q - 1) (r + y1) := by
  obtain ⟨p, rfl⟩ : ∃ p, q = p + 1 := ⟨q - 1, by omega⟩
  have h3 := h.qr; have h5 := h.hq'
  rw [Nat.succ_mul] at h3
  exact ⟨h.hy1, h.hy1', h.hy0, h.hd, h.hu, h.t1, h.t2, by rw [Nat.add_sub_cancel]; omega, hr, by omega, by omega⟩

theorem u64_pred {q : Nat} (h : 0 < q) (h' : q < 18446744073709551616) : IntKind.u64.wrap ((q : Int) - 1) = ((q - 1 : Nat) : Int) := by rw [u64_wrap]; omega

theorem pl_dig1 {x0 x1 x4 x6 : Int} {y1 y0 u d t : Nat} : ∀ (n q r : Nat), q ≤ n → Dig y1 y0 u d t q r →
    sh_math_bits_Div64_l1 x0 x1 y1 y0 x4 d x6 q r = some (x0, x1, (y1 : Int), (y0 : Int), x4, (d : Int), x6, (t : Int)) := by
  intro n
  induction n with
  | zero =>
    intro q r hn h
    have h5 := h.hq
    obtain rfl : q = 0 := by omega
    obtain rfl : t = 0 := by omega
    have h6 := h.hr
    rw [sh_math_bits_Div64_l1]
    refine iter_inr' ?_
    simp only [T_math_bits_Div64_l1]
    rw [Tr.run_false (by simp [u64_wrap]; omega), Tr.run_leaf]
  | succ n ih =>
    intro q r hn h
    have a1 := h.hy1; have a2 := h.hy1'; have a3 := h.hy0; have a4 := h.hd; have a5 := h.hr; have a6 := h.hq'
    rw [sh_math_bits_Div64_l1]
    by_cases hc : q ≥ 4294967296 ∨ r * 4294967296 + d < q * y0
    · have hlt := h.more hc
      have hT : ((decide ((q : Int) ≥ 4294967296)) || (decide ((IntKind.u64.wrap ((q : Int) * (y0 : Int))) > (IntKind.u64.wrap ((IntKind.u64.wrap (4294967296 * (r : Int))) + (d : Int)))))) = true := by
        by_cases hq : q ≥ 4294967296
        · rw [decide_eq_true (by omega)]; rfl
        · have hm := prod_lt (x := q) (y := y0) (by omega) a3
          rcases hc with hc | hc
          · omega
          · rw [← Int.natCast_mul, u64_lt (by omega), u64_wrap, u64_wrap, decide_eq_true (p := ((q * y0 : Nat) : Int) > _) (by omega), Bool.or_true]
      by_cases hb : r + y1 ≥ 4294967296
      · refine iter_inr' ?_
        simp only [T_math_bits_Div64_l1]
        rw [Tr.run_true hT, Tr.run_true (by rw [u64_wrap]; simp; omega), Tr.run_leaf, u64_pred (by omega) (by omega), h.brk hlt hb]
      · rw [← ih (q - 1) (r + y1) (by omega) (h.next hlt (by omega)), sh_math_bits_Div64_l1]
        refine iter_inl' ?_
        simp only [T_math_bits_Div64_l1]
        rw [Tr.run_true hT, Tr.run_false (by rw [u64_wrap]; simp; omega), Tr.run_leaf, u64_pred (by omega) (by omega), ← Int.natCast_add, u64_lt (by omega)]
    · have hq : q < 4294967296 := by omega
      have hm := prod_lt (x := q) (y := y0) hq a3
      have he : q = t := Dig.done h.t1 h.t2 h.qr h.hq (by omega)
      refine iter_inr' ?_
      simp only [T_math_bits_Div64_l1]
      rw [Tr.run_false (by
        rw [decide_eq_false (by omega), Bool.false_or, ← Int.natCast_mul, u64_lt (by omega), u64_wrap, u64_wrap, decide_eq_false (by omega)]), Tr.run_leaf, he]

theorem pl_dig2 {x0 x1 x5 x7 : Int} {y1 y0 u d t : Nat} : ∀ (n q r : Nat), q ≤ n → Dig y1 y0 u d t q r →
    sh_math_bits_Div64_l2 x0 x1 y1 y0 d x5 r x7 q = some (x0, x1, (d : Int), x5, x7, (t : Int)) := by
  intro n
  induction n with
  | zero =>
    intro q r hn h
    have h5 := h.hq
    obtain rfl : q = 0 := by omega
    obtain rfl : t = 0 := by omega
    have h6 := h.hr
    rw [sh_math_bits_Div64_l2]
    refine iter_inr' ?_
    simp only [T_math_bits_Div64_l2]
    rw [Tr.run_false (by simp [u64_wrap]; omega), Tr.run_leaf]
  | succ n ih =>
    intro q r hn h
    have a1 := h.hy1; have a2 := h.hy1'; have a3 := h.hy0; have a4 := h.hd; have a5 := h.hr; have a6 := h.hq'
    rw [sh_math_bits_Div64_l2]
    by_cases hc : q ≥ 4294967296 ∨ r * 4294967296 + d < q * y0
    · have hlt := h.more hc
      have hT : ((decide ((q : Int) ≥ 4294967296)) || (decide ((IntKind.u64.wrap ((q : Int) * (y0 : Int))) > (IntKind.u64.wrap ((IntKind.u64.wrap (4294967296 * (r : Int))) + (d : Int)))))) = true := by
        by_cases hq : q ≥ 4294967296
        · rw [decide_eq_true (by omega)]; rfl
        · have hm := prod_lt (x := q) (y := y0) (by omega) a3
          rcases hc with hc | hc
          · omega
          · rw [← Int.natCast_mul, u64_lt (by omega), u64_wrap, u64_wrap, decide_eq_true (p := ((q * y0 : Nat) : Int) > _) (by omega), Bool.or_true]
      by_cases hb : r + y1 ≥ 4294967296
      · refine iter_inr' ?_
        simp only [T_math_bits_Div64_l2]
        rw [Tr.run_true hT, Tr.run_true (by rw [u64_wrap]; simp; omega), Tr.run_leaf, u64_pred (by omega) (by omega), h.brk hlt hb]
      · rw [← ih (q - 1) (r + y1) (by omega) (h.next hlt (by omega)), sh_math_bits_Div64_l2]
        refine iter_inl' ?_
        simp only [T_math_bits_Div64_l2]
        rw [Tr.run_true hT, Tr.run_false (by rw [u64_wrap]; simp; omega), Tr.run_leaf, u64_pred (by omega) (by omega), ← Int.natCast_add, u64_lt (by omega)]
    · have hq : q < 4294967296 := by omega
      have hm := prod_lt (x := q) (y := y0) hq a3
      have he : q = t := Dig.done h.t1 h.t2 h.qr h.hq (by omega)
      refine iter_inr' ?_
      simp only [T_math_bits_Div64_l2]
      rw [Tr.run_false (by
        rw [decide_eq_false (by omega), Bool.false_or, ← Int.natCast_mul, u64_lt (by omega), u64_wrap, u64_wrap, decide_eq_false (by omega)]), Tr.run_leaf, he]

/-- The first guess is good enough to begin with. -/
theorem dig_start {y1 y0 u d : Nat} (hy1 : 2147483648 ≤ y1) (hy1' : y1 < 4294967296) (hy0 : y0 < 4294967296) (hd : d < 4294967296) (hu : u < y1 * 4294967296 + y0) :
    Dig y1 y0 u d ((u * 4294967296 + d) / (y1 * 4294967296 + y0)) (u / y1) (u - u / y1 * y1) := by
  have hpos : 0 < y1 * 4294967296 + y0 := by omega
  have e1 := Nat.div_add_mod u y1
  have e2 := Nat.mod_lt u (show y1 > 0 by omega)
  rw [Nat.mul_comm] at e1
  have f1 := Nat.div_add_mod (u * 4294967296 + d) (y1 * 4294967296 + y0)
  have f2 := Nat.mod_lt (u * 4294967296 + d) hpos
  rw [Nat.mul_comm] at f1
  have hq' : u / y1 ≤ 4294967297 := by
    refine Classical.byContradiction fun hn => ?_
    have := Nat.mul_le_mul_right y1 (show 4294967298 ≤ u / y1 by omega)
    omega
  generalize ht : (u * 4294967296 + d) / (y1 * 4294967296 + y0) = t at *
  generalize hq : u / y1 = q at *
  refine ⟨hy1, hy1', hy0, hd, hu, by omega, by rw [Nat.succ_mul]; omega, by omega, by omega, ?_, hq'⟩
  refine Classical.byContradiction fun hn => ?_
  have h1 := Nat.mul_le_mul_right (y1 * 4294967296 + y0) (show q + 1 ≤ t by omega)
  rw [Nat.mul_add, ← Nat.mul_assoc, Nat.succ_mul] at h1
  omega

theorem or_add {a b s : Nat} (hb : b < 2 ^ s) (ha : a * 2 ^ s + b < 18446744073709551616) : (BitVec.ofInt 64 ((a * 2 ^ s : Nat) : Int) ||| BitVec.ofInt 64 (b : Int)).toNat = a * 2 ^ s + b := by
  rw [BitVec.ofInt_natCast, BitVec.ofInt_natCast, BitVec.toNat_or, BitVec.toNat_ofNat, BitVec.toNat_ofNat, Nat.mod_eq_of_lt (by omega), Nat.mod_eq_of_lt (by omega)]
  have h3 := Nat.shiftLeft_add_eq_or_of_lt hb a
  rw [Nat.shiftLeft_eq] at h3
  exact h3.symm

theorem digs_join {u z v q1 q0 z1 z0 u2 : Nat} (h1 : u * 4294967296 + z1 = q1 * v + u2) (h2 : z = z1 * 4294967296 + z0) (h3 : q0 * v ≤ u2 * 4294967296 + z0) (h4 : u2 * 4294967296 + z0 < (q0 + 1) * v) :
    (u * 18446744073709551616 + z) / v = q1 * 4294967296 + q0 := by
  have m1 : (q1 * 4294967296 + q0) * v = q1 * v * 4294967296 + q0 * v := by rw [Nat.add_mul, Nat.mul_right_comm]
  have m2 : (q1 * 4294967296 + q0 + 1) * v = q1 * v * 4294967296 + q0 * v + v := by rw [Nat.add_one_mul, m1]
  have m3 : (q0 + 1) * v = q0 * v + v := Nat.add_one_mul q0 v
  rw [m3] at h4
  obtain ⟨k, hk⟩ : ∃ k, k = q1 * v := ⟨_, rfl⟩
  obtain ⟨j, hj⟩ : ∃ j, j = q0 * v := ⟨_, rfl⟩
  rw [← hk] at h1 m1 m2
  rw [← hj] at h3 h4 m1 m2
  have a1 : k * 4294967296 + j ≤ u * 18446744073709551616 + z := by clear m1 m2 m3 hk hj; omega
  have a2 : u * 18446744073709551616 + z < k * 4294967296 + j + v := by
    have h5 : u * 18446744073709551616 + z1 * 4294967296 = k * 4294967296 + u2 * 4294967296 := by
      have := congrArg (· * 4294967296) h1
      simpa only [Nat.add_mul, Nat.mul_assoc, Nat.reduceMul] using this
    obtain ⟨U, hU⟩ : ∃ U, U = u * 18446744073709551616 := ⟨_, rfl⟩
    obtain ⟨K, hK⟩ : ∃ K, K = k * 4294967296 := ⟨_, rfl⟩
    rw [← hU, ← hK] at h5 ⊢
    clear m1 m2 m3 hk hj h1 hU hK h3; omega
  rw [← m1] at a1
  rw [← m2] at a2
  exact Nat.div_eq_of_lt_le a1 a2

theorem pl_Div64 {h l y : Nat} (hh : h < y) (hl : l < 18446744073709551616) (hy : y < 18446744073709551616) :
    ∃ r, sh_math_bits_Div64 h l y = some ((((h * 18446744073709551616 + l) / y : Nat) : Int), r) := by
  rw [sh_math_bits_Div64, T_math_bits_Div64, Tr.run_false (by simp; omega), Tr.run_false (by simp; omega)]
  by_cases h0 : h = 0
  · subst h0
    refine ⟨Int.tmod l y, ?_⟩
    rw [Tr.run_true (by simp), Tr.run_guard (by omega), Tr.run_guard (by omega), Tr.run_leaf, tdiv_nn (by omega), ← Int.natCast_ediv, u64_lt (by have := Nat.div_le_self l y; omega), Nat.zero_mul, Nat.zero_add]
  · obtain ⟨s, e0, s1, s2, s3⟩ := pl_Lead (n := y) (by omega) hy
    rw [Tr.run_false (by simp; omega), Tr.run_bind e0]
    have hs0 : 0 < 2 ^ s := Nat.pow_pos (by omega)
    have w1 : IntKind.u64.wrap ((s : Nat) : Int) = (s : Int) := u64_lt (by omega)
    have w2 : IntKind.u64.wrap (64 - (s : Int)) = ((64 - s : Nat) : Int) := by rw [u64_wrap]; omega
    have m1 : min s 64 = s := by omega
    have m2 : min (64 - s) 64 = 64 - s := by omega
    have c2 : (2 : Int) ^ s = ((2 ^ s : Nat) : Int) := by rw [Int.natCast_pow]; rfl
    -- the shifted numbers
    have hle : h * 2 ^ s + l / 2 ^ (64 - s) < y * 2 ^ s := by
      have a1 := Nat.mul_le_mul_right (2 ^ s) (show h + 1 ≤ y by omega)
      have a2 : l / 2 ^ (64 - s) < 2 ^ s := by
        rw [Nat.div_lt_iff_lt_mul (Nat.pow_pos (by omega)), ← Nat.pow_add, show s + (64 - s) = 64 by omega]; exact hl
      rw [Nat.succ_mul] at a1; omega
    have hlo : l / 2 ^ (64 - s) < 2 ^ s := by
      rw [Nat.div_lt_iff_lt_mul (Nat.pow_pos (by omega)), ← Nat.pow_add, show s + (64 - s) = 64 by omega]; exact hl
    have hN : (h * 18446744073709551616 + l) * 2 ^ s = (h * 2 ^ s + l / 2 ^ (64 - s)) * 18446744073709551616 + l * 2 ^ s % 18446744073709551616 := by
      have k1 : (18446744073709551616 : Nat) = 2 ^ (64 - s) * 2 ^ s := by rw [← Nat.pow_add, show 64 - s + s = 64 by omega]
      have k2 := Nat.div_add_mod l (2 ^ (64 - s))
      have k3 : l * 2 ^ s % 18446744073709551616 = (l % 2 ^ (64 - s)) * 2 ^ s := by rw [k1, Nat.mul_mod_mul_right]
      rw [k3, Nat.add_mul, Nat.add_mul, Nat.mul_right_comm, Nat.add_assoc]
      congr 1
      conv => lhs; rw [← k2]
      rw [Nat.add_mul]
      congr 1
      rw [k1]
      rw [Nat.mul_comm (2 ^ (64 - s)) (l / 2 ^ (64 - s)), Nat.mul_assoc]
    have hq : (h * 18446744073709551616 + l) / y = (h * 18446744073709551616 + l) * 2 ^ s / (y * 2 ^ s) := by rw [Nat.mul_div_mul_right _ _ hs0]
    rw [hq, hN]
    simp only [w1, w2, Int.toNat_natCast, m1, m2, c2, fdiv_nat, ← Int.natCast_mul, u64_nat, and_mask]
    rw [Nat.mod_eq_of_lt s3, Nat.mod_eq_of_lt (a := h * 2 ^ s) (Nat.lt_of_le_of_lt (Nat.le_add_right _ _) (Nat.lt_trans hle s3))]
    rw [or_add hlo (Nat.lt_trans hle s3)]
    generalize y * 2 ^ s = v at *
    generalize h * 2 ^ s + l / 2 ^ (64 - s) = u at *
    generalize hz : l * 2 ^ s % 18446744073709551616 = z at *
    have hz' : z < 18446744073709551616 := by rw [← hz]; exact Nat.mod_lt _ (by omega)
    rw [show (2 : Nat) ^ 32 = 4294967296 by decide]
    have hv : v = v / 4294967296 * 4294967296 + v % 4294967296 := by omega
    have hv1 : 2147483648 ≤ v / 4294967296 := by omega
    have hv2 : v / 4294967296 < 4294967296 := by omega
    have hv3 : v % 4294967296 < 4294967296 := by omega
    generalize hy1 : v / 4294967296 = y1 at *
    generalize hy0 : v % 4294967296 = y0 at *
    have hz1 : z / 4294967296 < 4294967296 := by omega
    have hz0 : z % 4294967296 < 4294967296 := by omega
    have hzz : z = z / 4294967296 * 4294967296 + z % 4294967296 := by omega
    generalize z / 4294967296 = z1 at *
    generalize z % 4294967296 = z0 at *
    have A := dig_start (y1 := y1) (y0 := y0) (u := u) (d := z1) hv1 hv2 hv3 hz1 (by omega)
    rw [← hv] at A
    have hqq := Nat.div_mul_le_self u y1
    iterate 6 rw [Tr.run_guard (by omega)]
    rw [Tr.run_guard (by omega)]
    rw [Nat.mod_eq_of_lt (a := y0) (by omega), Nat.mod_eq_of_lt (a := u) (by omega), Nat.mod_eq_of_lt (a := z0) (by omega), tdiv_nn (x := ((u : Nat) : Int)) (by omega)]
    rw [show ((u : Nat) : Int) / ((y1 : Nat) : Int) = ((u / y1 : Nat) : Int) from (Int.natCast_ediv ..).symm]
    have wq : IntKind.u64.wrap (((u / y1 : Nat)) : Int) = ((u / y1 : Nat) : Int) := u64_lt (by have := Nat.div_le_self u y1; omega)
    rw [wq, ← Int.natCast_mul, u64_lt (n := u / y1 * y1) (by omega), show ((u : Nat) : Int) - ((u / y1 * y1 : Nat) : Int) = ((u - u / y1 * y1 : Nat) : Int) by omega, u64_lt (n := u - u / y1 * y1) (by omega)]
    rw [Tr.run_bind (pl_dig1 _ _ _ (Nat.le_refl _) A)]
    simp only []
    rw [Tr.run_guard (by omega)]
    have ht := A.small
    have T1 := A.t1; have T2 := A.t2
    rw [← hv] at T1 T2
    obtain ⟨q1, hq1⟩ : ∃ q1, q1 = (u * 4294967296 + z1) / v := ⟨_, rfl⟩
    rw [← hq1] at ht T1 T2 ⊢
    -- what is left behind the first digit
    have hr1 : IntKind.u64.wrap (IntKind.u64.wrap (IntKind.u64.wrap ((u : Int) * 4294967296) + (z1 : Int)) - IntKind.u64.wrap ((q1 : Int) * (v : Int))) = ((u * 4294967296 + z1 - q1 * v : Nat) : Int) := by
      rw [Nat.succ_mul] at T2
      rw [← Int.natCast_mul, u64_wrap, u64_wrap, u64_wrap, u64_wrap]
      generalize q1 * v = k at T1 T2 ⊢
      omega
    have hr2 : u * 4294967296 + z1 - q1 * v < v := by rw [Nat.succ_mul] at T2; omega
    have hr3 : u * 4294967296 + z1 = q1 * v + (u * 4294967296 + z1 - q1 * v) := by omega
    rw [hr1]
    obtain ⟨u2, hu2⟩ : ∃ u2, u2 = u * 4294967296 + z1 - q1 * v := ⟨_, rfl⟩
    rw [← hu2] at hr2 hr3 ⊢
    have A2 := dig_start (y1 := y1) (y0 := y0) (u := u2) (d := z0) hv1 hv2 hv3 hz0 (by omega)
    rw [← hv] at A2
    have hqq2 := Nat.div_mul_le_self u2 y1
    rw [tdiv_nn (x := ((u2 : Nat) : Int)) (by omega), show ((u2 : Nat) : Int) / ((y1 : Nat) : Int) = ((u2 / y1 : Nat) : Int) from (Int.natCast_ediv ..).symm]
    have wq2 : IntKind.u64.wrap (((u2 / y1 : Nat)) : Int) = ((u2 / y1 : Nat) : Int) := u64_lt (by have := Nat.div_le_self u2 y1; omega)
    rw [wq2, ← Int.natCast_mul, u64_lt (n := u2 / y1 * y1) (by omega), show ((u2 : Nat) : Int) - ((u2 / y1 * y1 : Nat) : Int) = ((u2 - u2 / y1 * y1 : Nat) : Int) by omega, u64_lt (n := u2 - u2 / y1 * y1) (by omega)]
    rw [Tr.run_bind (pl_dig2 _ _ _ (Nat.le_refl _) A2)]
    simp only []
    have ht2 := A2.small
    have T3 := A2.t1; have T4 := A2.t2
    rw [← hv] at T3 T4
    obtain ⟨q0, hq0⟩ : ∃ q0, q0 = (u2 * 4294967296 + z0) / v := ⟨_, rfl⟩
    rw [← hq0] at ht2 T3 T4 ⊢
    have hfin : (u * 18446744073709551616 + z) / v = q1 * 4294967296 + q0 := digs_join hr3 hzz T3 T4
    have hval : IntKind.u64.wrap (IntKind.u64.wrap ((q1 : Int) * 4294967296) + (q0 : Int)) = ((q1 * 4294967296 + q0 : Nat) : Int) := by rw [u64_wrap, u64_wrap]; omega
    rw [Tr.run_guard (by omega), Tr.run_leaf, hval, hfin]
    exact ⟨_, rfl⟩

end Go.Proofs.Ytbpehnghffljiaa.Ab
