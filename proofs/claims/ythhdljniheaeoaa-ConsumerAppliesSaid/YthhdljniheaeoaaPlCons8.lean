/-
  ConsumerApplies, with no program in sight: the law.
-/
import Derived.Test.YthhdljniheaeoaaFStake
import Derived.Test.YthhdljniheaeoaaFConsLaw
import Derived.Test.YthhdljniheaeoaaFCodec
import Derived.Test.YthhdljniheaeoaaPlCons7
namespace Go.Proofs.Ythhdljniheaeoaa.Ab
open Go Go.RowKit
set_option linter.unusedVariables false
set_option linter.unusedSimpArgs false

noncomputable def fsA (a : List Int) (l : List (List Int)) : Nat → Nat → Int
  | 0 => madeF a
  | i + 1 => madeF (l.getD i [])
theorem fsA_row (a : List Int) (l : List (List Int)) : ∀ i, Row4 (fsA a l i)
  | 0 => madeF_bound a
  | i + 1 => madeF_bound (l.getD i [])

noncomputable def dA (fs : Nat → Nat → Int) (now : Int) (cut n : Nat) : Consumer := if n ≤ cut then gA fs now 0 n 0 0 else gA fs now (cut + 1) n now 1
theorem dA_form (fs : Nat → Nat → Int) {now : Int} (h0 : 0 ≤ now) (cut n : Nat) : ∃ k t h, dA fs now cut n = gA fs now k n t h ∧ k ≤ n ∧ 0 ≤ t ∧ t ≤ now ∧ 0 ≤ h ∧ h ≤ 1 := by
  unfold dA
  by_cases h : n ≤ cut
  · exact ⟨0, 0, 0, by rw [if_pos h], by omega, by omega, h0, by omega, by omega⟩
  · exact ⟨cut + 1, now, 1, by rw [if_neg h], by omega, h0, by omega, by omega, by omega⟩

theorem gA_len (fs : Nat → Nat → Int) (now t h : Int) {k n : Nat} (hkn : k ≤ n) (hn : n ≤ 8) : ((gA fs now k n t h).Ripes.length + (gA fs now k n t h).Pending.length) * 16 ≤ 140737488355328 := by
  show (((List.range k).map (rpR now)).length + ((List.range (n - k)).map (fun j => pkA fs (k + j))).length) * 16 ≤ _
  simp only [List.length_map, List.length_range]
  omega

theorem pl_ConsumerApplies {a0 : List Int} {l : List (List Int)} {a2 a3 : Int} : sh_keep_ConsumerApplies a0 l a2 a3 = some true := by
  obtain ⟨now, n1, n2, n3⟩ := pl_pick (a := a3) (n := 1000) (by omega) (by omega)
  obtain ⟨cut, t1, t2, t3⟩ := pl_pick (a := a2) (n := 9) (by omega) (by omega)
  obtain ⟨k, rfl⟩ : ∃ k : Nat, cut = (k : Int) := ⟨cut.toNat, by omega⟩
  have hfs := fsA_row a0 l
  obtain ⟨fs, hF⟩ : ∃ fs, fs = fsA a0 l := ⟨_, rfl⟩
  have hm0 : sh_keep_made a0 = some (setOf (fs 0)) := by rw [hF]; exact pl_made
  have hm : ∀ i, sh_keep_made (l.getD i []) = some (setOf (fs (i + 1))) := fun i => by rw [hF]; exact pl_made
  rw [← hF] at hfs
  have h6 : ∀ i, (setOf (fs i)).length ≤ 6 := fun i => setOf_len (fs i)
  have hs0 := h6 0
  obtain ⟨n, hn⟩ : ∃ n, n = min l.length 8 := ⟨_, rfl⟩
  have hn8 : n ≤ 8 := by omega
  rw [sh_keep_ConsumerApplies, T_keep_ConsumerApplies, Tr.run_bind pl_keepconsumes, Tr.run_false (by rfl), Tr.run_bind n1, Tr.run_bind t1, Tr.run_bind hm0, Tr.run_bind (pl_Begin (by omega)), Tr.run_bind hm0]
  have hb : beginC (setOf (fs 0)) 1 0 = gA fs now 0 0 0 0 := rfl
  have hd0 : dA fs now k 0 = gA fs now 0 0 0 0 := if_pos (Nat.zero_le _)
  have k1 : sh_keep_ConsumerApplies_l1 l k now (setOf (fs 0)) 0 (beginC (setOf (fs 0)) 1 0) (beginC (setOf (fs 0)) 1 0) = some (.inr (now, setOf (fs n), gA fs now 0 n 0 0, dA fs now k n)) := by
    have := iter_uptof (F := fun s : (List (List Int)) × Int × Int × (List Power) × Int × Consumer × Consumer => (T_keep_ConsumerApplies_l1 s.1 s.2.1 s.2.2.1 s.2.2.2.1 s.2.2.2.2.1 s.2.2.2.2.2.1 s.2.2.2.2.2.2).run) n
      (fun i (_ : Unit) => (l, (k : Int), now, setOf (fs i), (i : Int), gA fs now 0 i 0 0, dA fs now k i)) (fun i _ => True) (fun _ _ => .inr (now, setOf (fs n), gA fs now 0 n 0 0, dA fs now k n)) (by
        intro _ _
        simp only [T_keep_ConsumerApplies_l1]
        rw [Tr.run_false (by simp only [Bool.and_eq_false_iff, decide_eq_false_iff_not]; omega), Tr.run_leaf]) (by
        intro i _ hi _
        have hw : IntKind.i64.wrap (2 + (i : Int)) = ((2 + i : Nat) : Int) := by rw [i64_in (by omega) (by omega)]; omega
        have hdl := diffOf_len (fs i) (fs (i + 1))
        have hel := encP_length (pkA fs i)
        have hel2 : (encP (pkA fs i)).length ≤ 65 := by
          rw [hel]; show 17 + 8 * (diffOf (fs i) (fs (i + 1))).length + 0 ≤ 65; omega
        have he : sh_codec_Encode ⟨1, ((2 + i : Nat) : Int), 0, 0, diffOf (fs i) (fs (i + 1)), []⟩ = some (txt (encP (pkA fs i)), 0) :=
          (pl_Encode (p := pkA fs i) (by show (diffOf (fs i) (fs (i + 1))).length * 16 ≤ _; omega) (by show 0 * 8 ≤ _; omega)).trans (by rw [encodeP_good (pkA_good hfs (by omega))])
        obtain ⟨k', t', h', d1, d2, d3, d4, d5, d6⟩ := dA_form fs n2 k i
        have hs1 := h6 (i + 1)
        have hc := gA_hear hfs (now := now) (t := 0) (h := 0) (k := 0) (n := i) (by omega) (by omega) n2 n3 (by omega) n2 (by omega) (by omega)
        have hd := gA_hear hfs (now := now) (t := t') (h := h') (k := k') (n := i) d2 (by omega) n2 n3 d3 d4 d5 (by omega)
        rw [← d1] at hd
        refine .inl ⟨(), ?_, trivial, rfl⟩
        simp only [T_keep_ConsumerApplies_l1, Int.toNat_natCast]
        rw [Tr.run_true (by simp; omega), Tr.run_guard ⟨by omega, by show (i : Int) < ((l.length : Nat) : Int); omega⟩, Tr.run_bind (hm i), Tr.run_bind (pl_Diff (fun v => (hfs i v).1) (fun v => (hfs (i + 1) v).1)), hw, Tr.run_bind he]
        simp only
        rw [Tr.run_bind (pl_Hear (gA_fit (by omega) (by omega)) (by rw [txt_size]; omega)), txt_toList, hc]
        rw [Tr.run_bind (pl_Hear (by rw [d1]; exact gA_fit d2 (by omega)) (by rw [txt_size]; omega)), txt_toList, hd]
        rw [Tr.run_false (by rfl), i64_nat (by omega)]
        by_cases hik : i = k
        · obtain rfl := hik
          have hdi : dA fs now i i = gA fs now 0 i 0 0 := if_pos (Nat.le_refl _)
          have heq : gA fs now k' (i + 1) t' h' = gA fs now 0 (i + 1) 0 0 := by
            have : hearC (dA fs now i i) (encP (pkA fs i)) = (gA fs now 0 (i + 1) 0 0, 0) := by rw [hdi]; exact hc
            rw [hd] at this
            exact congrArg Prod.fst this
          have hdn : dA fs now i (i + 1) = gA fs now (i + 1) (i + 1) now 1 := if_neg (by omega)
          have hend := gA_end hfs (now := now) (t := 0) (h := 0) (k := 0) (n := i + 1) (by omega) (by omega) n2 n3 (by omega) n2 (by omega) (by omega)
          rw [Int.zero_add] at hend
          rw [Tr.run_true (by simp), heq, Tr.run_bind (pl_End (gA_fit (by omega) (by omega)) (gA_len _ _ _ _ (by omega) (by omega))), hend]
          have hset : (gA fs now (i + 1) (i + 1) now 1).Set = setOf (fs (i + 1)) := rfl
          have hid : (gA fs now (i + 1) (i + 1) now 1).Id = ((2 + i : Nat) : Int) := by show ((1 + (i + 1) : Nat) : Int) = _; omega
          simp only [hset, hid, pl_samePw (l := setOf (fs (i + 1))) (by omega), Option.isSome_some, Option.getD_some]
          rw [Tr.run_guard (by simp), Tr.run_false (by simp), Tr.run_leaf, hdn]
        · have heq : gA fs now k' (i + 1) t' h' = dA fs now k (i + 1) := by
            by_cases hlt : i < k
            · have hdi : dA fs now k i = gA fs now 0 i 0 0 := if_pos (by omega)
              have hdn : dA fs now k (i + 1) = gA fs now 0 (i + 1) 0 0 := if_pos (by omega)
              rw [hdi, hc] at hd
              rw [hdn]; exact (congrArg Prod.fst hd).symm
            · have hdi : dA fs now k i = gA fs now (k + 1) i now 1 := if_neg (by omega)
              have hdn : dA fs now k (i + 1) = gA fs now (k + 1) (i + 1) now 1 := if_neg (by omega)
              have hh := gA_hear hfs (now := now) (t := now) (h := 1) (k := k + 1) (n := i) (by omega) (by omega) n2 n3 n2 (by omega) (by omega) (by omega)
              rw [hdi, hh] at hd
              rw [hdn]; exact (congrArg Prod.fst hd).symm
          rw [Tr.run_false (by simp; omega), Tr.run_leaf, heq]) 0 () (by omega) trivial
    rw [sh_keep_ConsumerApplies_l1, hb]
    simp only [hd0, Int.natCast_zero, Int.ofNat_zero, Int.ofNat_eq_natCast] at this
    exact this
  rw [Tr.run_inr k1]
  simp only
  obtain ⟨k', t', h', d1, d2, d3, d4, d5, d6⟩ := dA_form fs n2 k n
  have hc := gA_end hfs (now := now) (t := 0) (h := 0) (k := 0) (n := n) (by omega) hn8 n2 n3 (by omega) n2 (by omega) (by omega)
  have hd := gA_end hfs (now := now) (t := t') (h := h') (k := k') (n := n) d2 hn8 n2 n3 d3 d4 d5 (by omega)
  rw [d1, Tr.run_bind (pl_End (gA_fit (by omega) hn8) (gA_len _ _ _ _ (by omega) hn8)), hc, Tr.run_bind (pl_End (gA_fit d2 hn8) (gA_len _ _ _ _ d2 hn8)), hd]
  have hset : ∀ h, (gA fs now n n now h).Set = setOf (fs n) := fun _ => rfl
  have hid : ∀ h, (gA fs now n n now h).Id = ((1 + n : Nat) : Int) := fun _ => rfl
  have hrip : ∀ h, (gA fs now n n now h).Ripes.length = n := fun h => by
    show ((List.range n).map (rpR now)).length = n
    rw [List.length_map, List.length_range]
  have hpen : ∀ h, (gA fs now n n now h).Pending.length = 0 := fun h => by
    show ((List.range (n - n)).map (fun j => pkA fs (n + j))).length = 0
    rw [List.length_map, List.length_range, Nat.sub_self]
  have hsn := h6 n
  simp only [hset, hid, hrip, hpen, pl_samePw (l := setOf (fs n)) (by omega), Option.isSome_some, Option.getD_some]
  rw [Tr.run_guard (by simp), Tr.run_guard (by simp), Tr.run_leaf]
  simp

end Go.Proofs.Ythhdljniheaeoaa.Ab
