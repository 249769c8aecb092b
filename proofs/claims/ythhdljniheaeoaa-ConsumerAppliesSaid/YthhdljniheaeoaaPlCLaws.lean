/-
  The laws of packets and bytes, with no program in sight.
-/
import Derived.Test.YthhdljniheaeoaaFStake
import Derived.Test.YthhdljniheaeoaaFCodec
import Derived.Test.YthhdljniheaeoaaPlDec
namespace Go.Proofs.Ythhdljniheaeoaa.Ab
open Go Go.RowKit
set_option linter.unusedVariables false
set_option linter.unusedSimpArgs false

/-- Two lists compared by places, each step by a test `e`. -/
theorem pl_refsameS {a b : List Power} (hl : a.length ≤ 9223372036854775807) : ∃ r, sh_ref_SamePowers a b = some r ∧ (r = true ↔ a = b) := by
  rw [sh_ref_SamePowers, T_ref_SamePowers]
  by_cases h : a.length = b.length
  · rw [Tr.run_false (by simp; omega)]
    obtain ⟨r, h1, h2⟩ := iter_upto (F := fun s : (List Power) × (List Power) × Int × Int => (T_ref_SamePowers_l1 s.1 s.2.1 s.2.2.1 s.2.2.2).run) a.length
      (fun i (_ : Unit) => (a, b, (a.length : Int), (i : Int))) (fun i _ => True) (fun i _ r => match r with | .inl x => x = false ∧ a.drop i ≠ b.drop i | .inr _ => a.drop i = b.drop i) (by
        intro t _
        refine ⟨.inr (), ?_, ?_⟩
        · simp only [T_ref_SamePowers_l1]; rw [Tr.run_false (by simp), Tr.run_leaf]
        · rw [List.drop_length, h, List.drop_length]) (by
        intro i t hi _
        have sa := drop_step (l := a) (k := i) hi default
        have sb := drop_step (l := b) (k := i) (by omega) default
        simp only [T_ref_SamePowers_l1, Int.toNat_natCast]
        rw [Tr.run_true (by simpa using hi), Tr.run_guard ⟨by omega, by rw [sl_len_powers]; omega⟩, Tr.run_guard ⟨by omega, by rw [sl_len_powers]; omega⟩, sa, sb]
        generalize a.getD i default = x
        generalize b.getD i default = y
        by_cases hxy : x = y
        · subst hxy
          refine .inl ⟨(), ?_, trivial, ?_⟩
          · rw [Tr.run_false (by simp), Tr.run_leaf, i64_nat (by omega)]
          · intro r hr; cases r <;> simpa using hr
        · refine .inr ⟨.inl false, ?_, rfl, ?_⟩
          · rw [Tr.run_true (by cases x; cases y; simp only [Power.mk.injEq, not_and] at hxy; simp only [Bool.not_eq_true', Bool.and_true, Bool.and_eq_false_iff, beq_eq_false_iff_ne]; omega), Tr.run_leaf]
          · simp [hxy]) 0 () (by omega) trivial
    have h1 : sh_ref_SamePowers_l1 a b (a.length : Int) 0 = some r := h1
    cases r with
    | inl x => exact ⟨false, by rw [Tr.run_inl h1, Tr.run_leaf, h2.1], by simpa using h2.2⟩
    | inr x => exact ⟨true, by rw [Tr.run_inr h1, Tr.run_leaf], by simpa using h2⟩
  · exact ⟨false, by rw [Tr.run_true (by simp; omega), Tr.run_leaf], by simp; intro e; rw [e] at h; exact h rfl⟩

theorem pl_keepsameS {a b : List Power} (hl : a.length ≤ 9223372036854775807) : ∃ r, sh_keep_samePowers a b = some r ∧ (r = true ↔ a = b) := by
  rw [sh_keep_samePowers, T_keep_samePowers]
  by_cases h : a.length = b.length
  · rw [Tr.run_false (by simp; omega)]
    obtain ⟨r, h1, h2⟩ := iter_upto (F := fun s : (List Power) × (List Power) × Int => (T_keep_samePowers_l1 s.1 s.2.1 s.2.2).run) a.length
      (fun i (_ : Unit) => (a, b, (i : Int))) (fun i _ => True) (fun i _ r => match r with | .inl x => x = false ∧ a.drop i ≠ b.drop i | .inr _ => a.drop i = b.drop i) (by
        intro t _
        refine ⟨.inr (), ?_, ?_⟩
        · simp only [T_keep_samePowers_l1]; rw [Tr.run_false (by simp), Tr.run_leaf]
        · rw [List.drop_length, h, List.drop_length]) (by
        intro i t hi _
        have sa := drop_step (l := a) (k := i) hi default
        have sb := drop_step (l := b) (k := i) (by omega) default
        simp only [T_keep_samePowers_l1, Int.toNat_natCast]
        rw [Tr.run_true (by simpa using hi), Tr.run_guard ⟨by omega, by rw [sl_len_powers]; omega⟩, Tr.run_guard ⟨by omega, by rw [sl_len_powers]; omega⟩, sa, sb]
        generalize a.getD i default = x
        generalize b.getD i default = y
        by_cases hxy : x = y
        · subst hxy
          refine .inl ⟨(), ?_, trivial, ?_⟩
          · rw [Tr.run_false (by simp), Tr.run_leaf, i64_nat (by omega)]
          · intro r hr; cases r <;> simpa using hr
        · refine .inr ⟨.inl false, ?_, rfl, ?_⟩
          · rw [Tr.run_true (by cases x; cases y; simp only [Power.mk.injEq, not_and] at hxy; simp only [Bool.not_eq_true', Bool.and_true, Bool.and_eq_false_iff, beq_eq_false_iff_ne]; omega), Tr.run_leaf]
          · simp [hxy]) 0 () (by omega) trivial
    have h1 : sh_keep_samePowers_l1 a b 0 = some r := h1
    cases r with
    | inl x => exact ⟨false, by rw [Tr.run_inl h1, Tr.run_leaf, h2.1], by simpa using h2.2⟩
    | inr x => exact ⟨true, by rw [Tr.run_inr h1, Tr.run_leaf], by simpa using h2⟩
  · exact ⟨false, by rw [Tr.run_true (by simp; omega), Tr.run_leaf], by simp; intro e; rw [e] at h; exact h rfl⟩

theorem pl_refsameP {p : Packet} (h1 : p.Set.length ≤ 9223372036854775807) (h2 : p.Done.length ≤ 9223372036854775807) : sh_ref_SamePacket p p = some true := by
  obtain ⟨r, e1, e2⟩ := pl_refsameS (a := p.Set) (b := p.Set) h1
  obtain rfl : r = true := e2.2 rfl
  rw [sh_ref_SamePacket, T_ref_SamePacket]
  simp only [e1, pl_sameN h2, Option.isSome_some, Option.getD_some]
  rw [Tr.run_guard (by simp), Tr.run_guard (by simp), Tr.run_leaf]
  simp

theorem decodeP_len (s : List UInt8) : (decodeP s).1.Set.length ≤ 9223372036854775807 ∧ (decodeP s).1.Done.length ≤ 9223372036854775807 ∧ (decodeP s).1.Set.length * 16 ≤ 140737488351232 ∧ (decodeP s).1.Done.length * 8 ≤ 140737488351232 := by
  have hn : cnt s < 256 := num_one_lt
  have hm : cnt2 s < 256 := num_one_lt
  have h0 : (pNone.Set).length = 0 ∧ (pNone.Done).length = 0 := ⟨rfl, rfl⟩
  have h1 : ((pkt s).Set).length = cnt s ∧ ((pkt s).Done).length = cnt2 s := ⟨rdS_length _ _, rdD_length _ _⟩
  unfold decodeP
  split
  · simp only [h0.1, h0.2]; omega
  · split
    · simp only [h0.1, h0.2]; omega
    · simp only [h1.1, h1.2]; omega

/-! What is written is read. -/

theorem take_be {x : Int} {k : Nat} {r : List UInt8} : (be x k ++ r).take k = be x k := List.take_left' (be_length k)
theorem drop_be {x : Int} {k : Nat} {r : List UInt8} : (be x k ++ r).drop k = r := List.drop_left' (be_length k)

theorem rdS_enc : ∀ (l : List Power) (e : List UInt8), (∀ q, q ∈ l → 0 ≤ q.V ∧ q.V ≤ 5 ∧ 0 ≤ q.N ∧ q.N ≤ 1125899906842624) → rdS l.length (encS l ++ e) = l
  | [], e, h => rfl
  | q :: l, e, h => by
    obtain ⟨h1, h2, h3, h4⟩ := h q (List.mem_cons_self ..)
    have ih := rdS_enc l e (fun x hx => h x (List.mem_cons_of_mem _ hx))
    rw [List.length_cons, rdS_step, encS_cons, List.append_assoc, List.append_assoc, take_be, drop_be, take_be, show 8 = 1 + 7 from rfl, ← List.drop_drop, drop_be, drop_be, ih, num_be h1 (by omega), num_be h3 (by omega)]

theorem rdD_enc : ∀ (l : List Int) (e : List UInt8), (∀ q, q ∈ l → 0 ≤ q ∧ q ≤ 5) → rdD l.length (encD l ++ e) = l
  | [], e, h => rfl
  | q :: l, e, h => by
    obtain ⟨h1, h2⟩ := h q (List.mem_cons_self ..)
    have ih := rdD_enc l e (fun x hx => h x (List.mem_cons_of_mem _ hx))
    rw [List.length_cons, rdD_step, encD_cons, List.append_assoc, take_be, drop_be, ih, num_be h1 (by omega)]

theorem encP_length (p : Packet) : (encP p).length = 17 + 8 * p.Set.length + p.Done.length := by
  unfold encP
  simp only [List.length_append, be_length, encS_length, encD_length]
  omega

theorem back {p : Packet} (hg : goodP p = 0) (e : List UInt8) : cnt (encP p ++ e) = p.Set.length ∧ cnt2 (encP p ++ e) = p.Done.length ∧ pkt (encP p ++ e) = p := by
  obtain ⟨g1, g2, g3, g4, g5, g6, g7, g8, g9, g10, _, _⟩ := good_facts hg
  have l1 := powsOk_len g9 (by omega)
  have l2 := doneOk_len g10 (by omega)
  have hs : encP p ++ e = be p.Kind 1 ++ (be p.Id 6 ++ (be p.V 1 ++ (be p.N 7 ++ (be p.Set.length 1 ++ (encS p.Set ++ (be p.Done.length 1 ++ (encD p.Done ++ e))))))) := by
    unfold encP; simp only [List.append_assoc]
  have d1 : (encP p ++ e).drop 1 = be p.Id 6 ++ (be p.V 1 ++ (be p.N 7 ++ (be p.Set.length 1 ++ (encS p.Set ++ (be p.Done.length 1 ++ (encD p.Done ++ e)))))) := by rw [hs, drop_be]
  have d7 : (encP p ++ e).drop 7 = be p.V 1 ++ (be p.N 7 ++ (be p.Set.length 1 ++ (encS p.Set ++ (be p.Done.length 1 ++ (encD p.Done ++ e))))) := by rw [show 7 = 1 + 6 from rfl, ← List.drop_drop, d1, drop_be]
  have d8 : (encP p ++ e).drop 8 = be p.N 7 ++ (be p.Set.length 1 ++ (encS p.Set ++ (be p.Done.length 1 ++ (encD p.Done ++ e)))) := by rw [show 8 = 7 + 1 from rfl, ← List.drop_drop, d7, drop_be]
  have d15 : (encP p ++ e).drop 15 = be p.Set.length 1 ++ (encS p.Set ++ (be p.Done.length 1 ++ (encD p.Done ++ e))) := by rw [show 15 = 8 + 7 from rfl, ← List.drop_drop, d8, drop_be]
  have d16 : (encP p ++ e).drop 16 = encS p.Set ++ (be p.Done.length 1 ++ (encD p.Done ++ e)) := by rw [show 16 = 15 + 1 from rfl, ← List.drop_drop, d15, drop_be]
  have c1 : cnt (encP p ++ e) = p.Set.length := by
    have := num_be (x := (p.Set.length : Int)) (k := 1) (by omega) (by omega)
    unfold cnt
    rw [d15, take_be]; omega
  have dd : (encP p ++ e).drop (16 + 8 * p.Set.length) = be p.Done.length 1 ++ (encD p.Done ++ e) := by rw [← List.drop_drop, d16, List.drop_left' (encS_length _)]
  have c2 : cnt2 (encP p ++ e) = p.Done.length := by
    have := num_be (x := (p.Done.length : Int)) (k := 1) (by omega) (by omega)
    unfold cnt2
    rw [c1, dd, take_be]; omega
  have dz : (encP p ++ e).drop (17 + 8 * p.Set.length) = encD p.Done ++ e := by rw [show 17 + 8 * p.Set.length = 16 + 8 * p.Set.length + 1 by omega, ← List.drop_drop, dd, drop_be]
  refine ⟨c1, c2, ?_⟩
  unfold pkt
  rw [c1, c2, dz, d16, d8, d7, d1, take_be, take_be, take_be, rdS_enc _ _ (powsOk_mem (by omega) g9 (by omega)), rdD_enc _ _ (doneOk_mem g10 (by omega))]
  rw [show (encP p ++ e).take 1 = be p.Kind 1 by rw [hs, take_be]]
  rw [num_be (by omega) (by omega), num_be (by omega) (by omega), num_be (by omega) (by omega), num_be (by omega) (by omega)]

theorem dec_enc {p : Packet} (hg : goodP p = 0) : decodeP (encP p) = (p, 0) := by
  obtain ⟨b1, b2, b3⟩ := back hg []
  rw [List.append_nil] at b1 b2 b3
  unfold decodeP
  rw [b1, b2, b3, if_neg (by rw [encP_length]; omega), if_neg (by simpa using hg)]

theorem dec_more {p : Packet} (hg : goodP p = 0) {e : List UInt8} (he : e ≠ []) : decodeP (encP p ++ e) = (pNone, 1) := by
  obtain ⟨b1, b2, b3⟩ := back hg e
  have := List.length_pos_iff.2 he
  unfold decodeP
  rw [b1, b2, if_pos (by rw [List.length_append, encP_length]; omega)]

theorem dec_cut {p : Packet} (hg : goodP p = 0) {k : Nat} (hk : k < (encP p).length) : decodeP ((encP p).take k) = (pNone, 1) := by
  obtain ⟨b1, b2, b3⟩ := back hg []
  rw [List.append_nil] at b1 b2 b3
  have hl := encP_length p
  have hk' : ((encP p).take k).length = k := by rw [List.length_take]; omega
  unfold decodeP
  rw [if_pos]
  rw [hk']
  intro hc
  have c1 : cnt ((encP p).take k) = p.Set.length := by
    rw [← b1]; unfold cnt
    rw [List.drop_take, List.take_take, Nat.min_eq_left (by omega)]
  have c2 : cnt2 ((encP p).take k) = p.Done.length := by
    rw [← b2]; unfold cnt2
    rw [c1, b1, List.drop_take, List.take_take, Nat.min_eq_left (by omega)]
  omega

/-! What is read was written. -/

theorem encS_rd : ∀ (n : Nat) {s : List UInt8}, 8 * n ≤ s.length → encS (rdS n s) = s.take (8 * n)
  | 0, s, h => by simp [rdS, encS]
  | n + 1, s, h => by
    rw [rdS_step, encS_cons, be_num 1 (by rw [List.length_take]; omega), be_num 7 (by rw [List.length_take, List.length_drop]; omega), encS_rd n (by rw [List.length_drop]; omega)]
    rw [show 8 * (n + 1) = 1 + (7 + 8 * n) by omega, List.take_add, List.take_add, List.drop_drop, List.append_assoc]

theorem encD_rd : ∀ (n : Nat) {s : List UInt8}, n ≤ s.length → encD (rdD n s) = s.take n
  | 0, s, h => by simp [rdD, encD]
  | n + 1, s, h => by
    rw [rdD_step, encD_cons, be_num 1 (by rw [List.length_take]; omega), encD_rd n (by rw [List.length_drop]; omega)]
    rw [show n + 1 = 1 + n by omega, List.take_add]

theorem enc_dec {s : List UInt8} (h : s.length = 17 + 8 * cnt s + cnt2 s) : encP (pkt s) = s := by
  have h1 : (pkt s).Set.length = cnt s := rdS_length _ _
  have h2 : (pkt s).Done.length = cnt2 s := rdD_length _ _
  unfold encP
  rw [h1, h2]
  unfold pkt
  simp only []
  rw [encS_rd _ (by rw [List.length_drop]; omega), encD_rd _ (by rw [List.length_drop]; omega), be_num 1 (by rw [List.length_take]; omega), be_num 6 (by rw [List.length_take, List.length_drop]; omega), be_num 1 (by rw [List.length_take, List.length_drop]; omega), be_num 7 (by rw [List.length_take, List.length_drop]; omega)]
  have e1 : be ((cnt s : Nat) : Int) 1 = (s.drop 15).take 1 := be_num 1 (by rw [List.length_take, List.length_drop]; omega)
  have e2 : be ((cnt2 s : Nat) : Int) 1 = (s.drop (16 + 8 * cnt s)).take 1 := be_num 1 (by rw [List.length_take, List.length_drop]; omega)
  rw [e1, e2]
  have t : ∀ a b, (s.take a) ++ ((s.drop a).take b) = s.take (a + b) := fun a b => (List.take_add ..).symm
  rw [show s.take 1 ++ (s.drop 1).take 6 = s.take 7 from t 1 6, show s.take 7 ++ (s.drop 7).take 1 = s.take 8 from t 7 1, show s.take 8 ++ (s.drop 8).take 7 = s.take 15 from t 8 7, show s.take 15 ++ (s.drop 15).take 1 = s.take 16 from t 15 1, t, t, show 16 + 8 * cnt s + 1 = 17 + 8 * cnt s by omega, t]
  rw [List.take_of_length_le (by omega)]

theorem encodeP_bad {p : Packet} (h : ¬ goodP p = 0) : encodeP p = (txt [], goodP p) := if_neg h
theorem encodeP_good {p : Packet} (h : goodP p = 0) : encodeP p = (txt (encP p), 0) := if_pos h

end Go.Proofs.Ythhdljniheaeoaa.Ab
