/-
  Bytes read as packets, with no program in sight: Decode, twice told, is the same; what is written is read, and what is read was written.
-/
import Derived.Test.YthhdljniheaeoaaFCodec
import Derived.Test.YthhdljniheaeoaaPlCodec
namespace Go.Proofs.Ythhdljniheaeoaa.Ab
open Go Go.RowKit
set_option linter.unusedVariables false
set_option linter.unusedSimpArgs false

theorem iter_inl {σ ρ : Type} {F : σ → Option (σ ⊕ ρ)} {s s' : σ} (h : F s = some (.inl s')) : iter F s = iter F s' := by rw [iter_eq, h]
theorem iter_inr {σ ρ : Type} {F : σ → Option (σ ⊕ ρ)} {s : σ} {r : ρ} (h : F s = some (.inr r)) : iter F s = some r := by rw [iter_eq, h]

/-- The number that bytes are, the first one the greatest, behind another number. -/
def numF (v : Nat) (l : List UInt8) : Nat := l.foldl (fun v c => 256 * v + c.toNat) v
def num (l : List UInt8) : Nat := numF 0 l

theorem numF_cons (v : Nat) (c : UInt8) (l : List UInt8) : numF v (c :: l) = numF (256 * v + c.toNat) l := rfl
theorem numF_snoc (v : Nat) (c : UInt8) (l : List UInt8) : numF v (l ++ [c]) = 256 * numF v l + c.toNat := by simp [numF]

theorem numF_lt : ∀ {l : List UInt8} {v i : Nat}, v < 256 ^ i → numF v l < 256 ^ (i + l.length)
  | [], v, i, h => h
  | c :: l, v, i, h => by
    have := numF_lt (l := l) (v := 256 * v + c.toNat) (i := i + 1) (by have := c.toNat_lt; rw [Nat.pow_succ']; omega)
    rw [numF_cons, List.length_cons, show i + (l.length + 1) = i + 1 + l.length by omega]
    exact this

theorem num_lt {l : List UInt8} {k : Nat} (h : l.length ≤ k) : num l < 256 ^ k := by
  have := numF_lt (l := l) (v := 0) (i := 0) (by simp)
  rw [Nat.zero_add] at this
  exact Nat.lt_of_lt_of_le this (Nat.pow_le_pow_right (by omega) h)

theorem byt_toNat (x : Int) (i : Nat) : (byt x i).toNat = x.toNat / 256 ^ i % 256 := by
  unfold byt; rw [UInt8.toNat_ofNat']

theorem numF_be (x : Int) : ∀ (k v : Nat), numF v (be x k) = v * 256 ^ k + x.toNat % 256 ^ k
  | 0, v => by simp [be, numF, Nat.mod_one]
  | k + 1, v => by
    rw [be, numF_cons, numF_be x k, byt_toNat, Nat.mod_pow_succ, Nat.pow_succ', Nat.add_mul, Nat.mul_comm (x.toNat / 256 ^ k % 256), Nat.mul_comm 256 v, Nat.mul_assoc]
    omega

theorem num_be {x : Int} {k : Nat} (h0 : 0 ≤ x) (h : x.toNat < 256 ^ k) : ((num (be x k) : Nat) : Int) = x := by
  obtain ⟨n, rfl⟩ := Int.eq_ofNat_of_zero_le h0
  unfold num
  rw [numF_be, Nat.zero_mul, Nat.zero_add, Int.toNat_natCast, Nat.mod_eq_of_lt (by simpa using h)]

theorem byt_nat (n i : Nat) : byt (n : Int) i = UInt8.ofNat (n / 256 ^ i) := rfl

theorem be_num : ∀ (k : Nat) {l : List UInt8}, l.length = k → be ((num l : Nat) : Int) k = l
  | 0, l, h => by rw [List.length_eq_zero_iff.1 h]; rfl
  | k + 1, l, h => by
    have hne : l ≠ [] := by intro e; rw [e] at h; simp at h
    have hl := List.dropLast_concat_getLast hne
    generalize hc : l.getLast hne = c at hl
    generalize hd : l.dropLast = d at hl
    have hd1 : d.length = k := by rw [← hd, List.length_dropLast]; omega
    rw [← hl]
    unfold num
    rw [numF_snoc, be_low (by omega)]
    have h1 : (((256 * numF 0 d + c.toNat : Nat) : Int) / 256) = ((num d : Nat) : Int) := by have := c.toNat_lt; unfold num; omega
    rw [h1, be_num k hd1]
    congr 1
    rw [byt_nat, Nat.pow_zero, Nat.div_one]
    congr 1
    apply UInt8.toNat_inj.1
    rw [UInt8.toNat_ofNat']
    have := c.toNat_lt; omega

theorem bits_or {v c : Nat} (hv : v < 281474976710656) (hc : c < 256) :
    IntKind.i64.wrap (((BitVec.ofInt 64 (IntKind.i64.wrap ((v : Int) * 2 ^ 8)) ||| BitVec.ofInt 64 (IntKind.i64.wrap ((c : Nat) : Int))).toNat : Nat) : Int) = ((256 * v + c : Nat) : Int) := by
  have h1 : IntKind.i64.wrap ((v : Int) * 2 ^ 8) = ((v * 256 : Nat) : Int) := by rw [i64_in (by omega) (by omega)]; omega
  have h2 : IntKind.i64.wrap ((c : Nat) : Int) = ((c : Nat) : Int) := i64_in (by omega) (by omega)
  rw [h1, h2, BitVec.ofInt_natCast, BitVec.ofInt_natCast, BitVec.toNat_or, BitVec.toNat_ofNat, BitVec.toNat_ofNat, Nat.mod_eq_of_lt (by omega), Nat.mod_eq_of_lt (by omega)]
  have h3 := Nat.shiftLeft_add_eq_or_of_lt (i := 8) (b := c) (by omega) v
  rw [Nat.shiftLeft_eq] at h3
  rw [← h3, i64_in (by omega) (by omega)]
  omega

theorem txt_extract (s : List UInt8) (a b : Nat) : (txt s).extract a b = txt ((s.drop a).take (b - a)) := by
  apply ByteArray.ext
  rw [ByteArray.data_extract]
  apply Array.toList_inj.1
  rw [Array.toList_extract]
  rfl

theorem txt_all (a : ByteArray) : a = txt a.data.toList := rfl

theorem pl_num1 {n : Int} {l : List UInt8} {t : Taker} (hl : l.length ≤ 7) :
    sh_codec_taker_number_l1 n 0 l l.length 0 t = some (n, ((num l : Nat) : Int), t) := by
  have := iter_uptof (F := fun s : Int × Int × (List UInt8) × Int × Int × Taker => (T_codec_taker_number_l1 s.1 s.2.1 s.2.2.1 s.2.2.2.1 s.2.2.2.2.1 s.2.2.2.2.2).run) l.length
    (fun i (v : Nat) => (n, (v : Int), l, (l.length : Int), (i : Int), t)) (fun i v => v < 256 ^ i) (fun i v => (n, ((numF v (l.drop i) : Nat) : Int), t)) ?_ ?_ 0 0 (by omega) (by simp)
  · rw [sh_codec_taker_number_l1]; exact this
  · intro v hv
    simp only [T_codec_taker_number_l1]
    rw [Tr.run_false (by simp), Tr.run_leaf, List.drop_length]
    rfl
  · intro i v hi hv
    have hs := drop_step (l := l) (k := i) hi 0
    simp only [T_codec_taker_number_l1, Int.toNat_natCast]
    have hb : (256 : Nat) ^ i ≤ 256 ^ 6 := Nat.pow_le_pow_right (by omega) (by omega)
    have hc := (l.getD i 0).toNat_lt
    refine .inl ⟨256 * v + (l.getD i 0).toNat, ?_, by rw [Nat.pow_succ']; omega, ?_⟩
    · rw [Tr.run_true (by simpa using hi), Tr.run_guard ⟨by omega, by rw [sl_len_bytes]; omega⟩, Tr.run_guard (by omega), Tr.run_leaf, i64_nat (by omega), bits_or (by omega) (by omega)]
    · rw [hs]; rfl

theorem pl_number {n : Nat} {s : List UInt8} {b : Bool} (hn : n ≤ 7) (hs : s.length ≤ 140737488355328) :
    sh_codec_taker_number n ⟨txt s, b⟩ = some (if s.length < n then ((0 : Int), (⟨txt [], true⟩ : Taker)) else (((num (s.take n) : Nat) : Int), (⟨txt (s.drop n), b⟩ : Taker))) := by
  rw [sh_codec_taker_number, T_codec_taker_number]
  simp only [txt_size, Int.toNat_natCast]
  by_cases h : s.length < n
  · rw [if_pos h, Tr.run_true (by simpa using h), Tr.run_leaf]; rfl
  · rw [if_neg h, Tr.run_false (by simp; omega), Tr.run_guard (by omega), txt_extract, Nat.sub_zero, List.drop_zero, Tr.run_guard (by rw [txt_size, List.length_take]; omega), txt_toList,
      Tr.run_bind (pl_num1 (by rw [List.length_take]; omega))]
    simp only [txt_size, Int.toNat_natCast]
    rw [Tr.run_guard (by omega), Tr.run_leaf, txt_extract, List.take_of_length_le (l := s.drop n) (Nat.le_of_eq List.length_drop)]

theorem pl_number_in {n : Nat} {m : Int} (hm : m = n) {s : List UInt8} {b : Bool} (hn : n ≤ 7) (hs : s.length ≤ 140737488355328) (h : n ≤ s.length) :
    sh_codec_taker_number m ⟨txt s, b⟩ = some (((num (s.take n) : Nat) : Int), (⟨txt (s.drop n), b⟩ : Taker)) := by
  rw [hm, pl_number hn hs, if_neg (by omega)]

theorem pl_number_out {n : Nat} {m : Int} (hm : m = n) {s : List UInt8} {b : Bool} (hn : n ≤ 7) (hs : s.length ≤ 140737488355328) (h : s.length < n) :
    sh_codec_taker_number m ⟨txt s, b⟩ = some ((0 : Int), (⟨txt [], true⟩ : Taker)) := by
  rw [hm, pl_number hn hs, if_pos h]

/-- Powers out of bytes, and numbers. -/
def rdS : Nat → List UInt8 → List Power
  | 0, _ => []
  | n + 1, s => ⟨(num (s.take 1) : Nat), (num ((s.drop 1).take 7) : Nat)⟩ :: rdS n (s.drop 8)
def rdD : Nat → List UInt8 → List Int
  | 0, _ => []
  | n + 1, s => ((num (s.take 1) : Nat) : Int) :: rdD n (s.drop 1)

theorem pl_dec1_bad (x : Int) (p0 p : Packet) : sh_codec_Decode_l1 x p0 ⟨txt [], true⟩ p = some (p0, ⟨txt [], true⟩, p) := by
  rw [sh_codec_Decode_l1]
  refine iter_inr ?_
  simp only [T_codec_Decode_l1]
  rw [Tr.run_false (by simp), Tr.run_leaf]

theorem pl_dec2_bad (x : Int) (p0 p : Packet) : sh_codec_Decode_l2 x p0 ⟨txt [], true⟩ p = some (p0, ⟨txt [], true⟩, p) := by
  rw [sh_codec_Decode_l2]
  refine iter_inr ?_
  simp only [T_codec_Decode_l2]
  rw [Tr.run_false (by simp), Tr.run_leaf]

theorem pl_dec1 {p0 : Packet} : ∀ (k : Nat) {s : List UInt8} {p : Packet}, s.length ≤ 140737488355328 → p.Set.length + k ≤ 1000 →
    ∃ r : Taker × Packet, sh_codec_Decode_l1 k p0 ⟨txt s, false⟩ p = some (p0, r.1, r.2) ∧
      (if 8 * k ≤ s.length then r = (⟨txt (s.drop (8 * k)), false⟩, { p with Set := p.Set ++ rdS k s }) else r.1 = ⟨txt [], true⟩)
  | 0, s, p, hs, hp => by
    refine ⟨(⟨txt s, false⟩, p), ?_, ?_⟩
    · rw [sh_codec_Decode_l1]
      refine iter_inr ?_
      simp only [T_codec_Decode_l1]
      rw [Tr.run_false (by simp), Tr.run_leaf]
    · rw [if_pos (by omega)]; try simp [rdS]
  | k + 1, s, p, hs, hp => by
    have hw : IntKind.i64.wrap (((k + 1 : Nat) : Int) - 1) = (k : Int) := by rw [i64_in (by omega) (by omega)]; omega
    have key : ∀ (v1 : Int) (t1 : Taker) (v2 : Int) (t2 : Taker), sh_codec_taker_number 1 ⟨txt s, false⟩ = some (v1, t1) → sh_codec_taker_number 7 t1 = some (v2, t2) →
        sh_codec_Decode_l1 (k + 1 : Nat) p0 ⟨txt s, false⟩ p = sh_codec_Decode_l1 k p0 t2 { p with Set := p.Set ++ [⟨v1, v2⟩] } := by
      intro v1 t1 v2 t2 e1 e2
      rw [sh_codec_Decode_l1, sh_codec_Decode_l1]
      refine iter_inl ?_
      simp only [T_codec_Decode_l1]
      rw [Tr.run_true (by first | (simp; omega) | simp), Tr.run_bind e1]
      simp only [e2, Option.isSome_some, Option.getD_some, hw]
      rw [Tr.run_guard (by trivial), Tr.run_guard (by simp only [sl_len_powers, List.length_singleton]; omega), Tr.run_leaf]
    by_cases h1 : s.length < 1
    · rw [key 0 ⟨txt [], true⟩ 0 ⟨txt [], true⟩ (pl_number_out (m := 1) (n := 1) rfl (by omega) hs h1) (pl_number_out (m := 7) (n := 7) rfl (by omega) (by simp) (by simp))]
      exact ⟨(⟨txt [], true⟩, _), pl_dec1_bad _ _ _, by rw [if_neg (by omega)]⟩
    · by_cases h2 : s.length < 8
      · rw [key _ _ 0 ⟨txt [], true⟩ (pl_number_in (m := 1) (n := 1) rfl (by omega) hs (by omega)) (pl_number_out (m := 7) (n := 7) rfl (by omega) (by rw [List.length_drop]; omega) (by rw [List.length_drop]; omega))]
        exact ⟨(⟨txt [], true⟩, _), pl_dec1_bad _ _ _, by rw [if_neg (by omega)]⟩
      · have e2 := pl_number_in (m := 7) (n := 7) rfl (s := s.drop 1) (b := false) (by omega) (by rw [List.length_drop]; omega) (by rw [List.length_drop]; omega)
        rw [key _ _ _ _ (pl_number_in (m := 1) (n := 1) rfl (by omega) hs (by omega)) e2, List.drop_drop]
        obtain ⟨r, q1, q2⟩ := pl_dec1 (p0 := p0) k (s := s.drop (1 + 7)) (p := { p with Set := p.Set ++ [⟨(num (s.take 1) : Nat), (num ((s.drop 1).take 7) : Nat)⟩] }) (by rw [List.length_drop]; omega) (by simp only [List.length_append, List.length_singleton]; omega)
        refine ⟨r, q1, ?_⟩
        rw [List.length_drop] at q2
        by_cases h3 : 8 * (k + 1) ≤ s.length
        · rw [if_pos h3]
          rw [if_pos (by omega)] at q2
          rw [q2, List.drop_drop, show 1 + 7 + 8 * k = 8 * (k + 1) by omega]
          simp [rdS]
        · rw [if_neg h3]
          rwa [if_neg (by omega)] at q2

theorem pl_dec2 {p0 : Packet} : ∀ (k : Nat) {s : List UInt8} {p : Packet}, s.length ≤ 140737488355328 → p.Done.length + k ≤ 1000 →
    ∃ r : Taker × Packet, sh_codec_Decode_l2 k p0 ⟨txt s, false⟩ p = some (p0, r.1, r.2) ∧
      (if k ≤ s.length then r = (⟨txt (s.drop k), false⟩, { p with Done := p.Done ++ rdD k s }) else r.1 = ⟨txt [], true⟩)
  | 0, s, p, hs, hp => by
    refine ⟨(⟨txt s, false⟩, p), ?_, ?_⟩
    · rw [sh_codec_Decode_l2]
      refine iter_inr ?_
      simp only [T_codec_Decode_l2]
      rw [Tr.run_false (by simp), Tr.run_leaf]
    · rw [if_pos (by omega)]; try simp [rdD]
  | k + 1, s, p, hs, hp => by
    have hw : IntKind.i64.wrap (((k + 1 : Nat) : Int) - 1) = (k : Int) := by rw [i64_in (by omega) (by omega)]; omega
    have key : ∀ (v1 : Int) (t1 : Taker), sh_codec_taker_number 1 ⟨txt s, false⟩ = some (v1, t1) →
        sh_codec_Decode_l2 (k + 1 : Nat) p0 ⟨txt s, false⟩ p = sh_codec_Decode_l2 k p0 t1 { p with Done := p.Done ++ [v1] } := by
      intro v1 t1 e1
      rw [sh_codec_Decode_l2, sh_codec_Decode_l2]
      refine iter_inl ?_
      simp only [T_codec_Decode_l2]
      rw [Tr.run_true (by first | (simp; omega) | simp)]
      simp only [e1, Option.isSome_some, Option.getD_some, hw]
      rw [Tr.run_guard (by trivial), Tr.run_guard (by simp only [sl_len_ints, List.length_singleton]; omega), Tr.run_leaf]
    by_cases h1 : s.length < 1
    · rw [key 0 ⟨txt [], true⟩ (pl_number_out (m := 1) (n := 1) rfl (by omega) hs h1)]
      exact ⟨(⟨txt [], true⟩, _), pl_dec2_bad _ _ _, by rw [if_neg (by omega)]⟩
    · rw [key _ _ (pl_number_in (m := 1) (n := 1) rfl (by omega) hs (by omega))]
      obtain ⟨r, q1, q2⟩ := pl_dec2 (p0 := p0) k (s := s.drop 1) (p := { p with Done := p.Done ++ [((num (s.take 1) : Nat) : Int)] }) (by rw [List.length_drop]; omega) (by simp only [List.length_append, List.length_singleton]; omega)
      refine ⟨r, q1, ?_⟩
      rw [List.length_drop] at q2
      by_cases h3 : k + 1 ≤ s.length
      · rw [if_pos h3]
        rw [if_pos (by omega)] at q2
        rw [q2, List.drop_drop, show 1 + k = k + 1 by omega]
        simp [rdD]
      · rw [if_neg h3]
        rwa [if_neg (by omega)] at q2

def cnt (s : List UInt8) : Nat := num ((s.drop 15).take 1)
def cnt2 (s : List UInt8) : Nat := num ((s.drop (16 + 8 * cnt s)).take 1)
def pkt (s : List UInt8) : Packet :=
  ⟨(num (s.take 1) : Nat), (num ((s.drop 1).take 6) : Nat), (num ((s.drop 7).take 1) : Nat), (num ((s.drop 8).take 7) : Nat), rdS (cnt s) (s.drop 16), rdD (cnt2 s) (s.drop (17 + 8 * cnt s))⟩
def pNone : Packet := ⟨0, 0, 0, 0, [], []⟩
def decodeP (s : List UInt8) : Packet × Int :=
  if s.length ≠ 17 + 8 * cnt s + cnt2 s then (pNone, 1) else if goodP (pkt s) ≠ 0 then (pNone, goodP (pkt s)) else (pkt s, 0)

theorem num_one_lt {l : List UInt8} : num (l.take 1) < 256 := num_lt (k := 1) (by rw [List.length_take]; omega)

theorem rdS_length : ∀ (k : Nat) (s : List UInt8), (rdS k s).length = k
  | 0, _ => rfl
  | k + 1, s => by rw [rdS, List.length_cons, rdS_length k]
theorem rdD_length : ∀ (k : Nat) (s : List UInt8), (rdD k s).length = k
  | 0, _ => rfl
  | k + 1, s => by rw [rdD, List.length_cons, rdD_length k]

/-- What takes more than there is is bad, and stays so. -/
theorem num_short {n k : Nat} {m : Int} (hm : m = n) (h1 : 1 ≤ n) (hn : n ≤ 7) {t : Taker} (ht : t = ⟨txt [], true⟩ ∨ ∃ s, t = ⟨txt s, false⟩ ∧ s.length < n + k ∧ s.length ≤ 1000) :
    ∃ v t', sh_codec_taker_number m t = some (v, t') ∧ (t' = ⟨txt [], true⟩ ∨ ∃ s, t' = ⟨txt s, false⟩ ∧ s.length < k ∧ s.length ≤ 1000) := by
  rcases ht with rfl | ⟨s, rfl, h2, h3⟩
  · exact ⟨_, _, pl_number_out hm hn (by simp) (by simp; omega), .inl rfl⟩
  · by_cases h : s.length < n
    · exact ⟨_, _, pl_number_out hm hn (by omega) h, .inl rfl⟩
    · exact ⟨_, _, pl_number_in hm hn (by omega) (by omega), .inr ⟨_, rfl, by rw [List.length_drop]; omega, by rw [List.length_drop]; omega⟩⟩

theorem pl_Decode {s : List UInt8} (hs : s.length ≤ 140737488355328) : sh_codec_Decode (txt s) = some (decodeP s) := by
  rw [sh_codec_Decode, T_codec_Decode]
  by_cases h16 : 16 ≤ s.length
  · have e1 : sh_codec_taker_number 1 ⟨txt s, false⟩ = some (((num (s.take 1) : Nat) : Int), (⟨txt (s.drop 1), false⟩ : Taker)) := pl_number_in (n := 1) rfl (by omega) hs (by omega)
    have e2 : sh_codec_taker_number 6 ⟨txt (s.drop 1), false⟩ = some (((num ((s.drop 1).take 6) : Nat) : Int), (⟨txt (s.drop 7), false⟩ : Taker)) := by
      have h := pl_number_in (n := 6) (m := 6) rfl (s := s.drop 1) (b := false) (by omega) (by rw [List.length_drop]; omega) (by rw [List.length_drop]; omega)
      rwa [List.drop_drop] at h
    have e3 : sh_codec_taker_number 1 ⟨txt (s.drop 7), false⟩ = some (((num ((s.drop 7).take 1) : Nat) : Int), (⟨txt (s.drop 8), false⟩ : Taker)) := by
      have h := pl_number_in (n := 1) (m := 1) rfl (s := s.drop 7) (b := false) (by omega) (by rw [List.length_drop]; omega) (by rw [List.length_drop]; omega)
      rwa [List.drop_drop] at h
    have e4 : sh_codec_taker_number 7 ⟨txt (s.drop 8), false⟩ = some (((num ((s.drop 8).take 7) : Nat) : Int), (⟨txt (s.drop 15), false⟩ : Taker)) := by
      have h := pl_number_in (n := 7) (m := 7) rfl (s := s.drop 8) (b := false) (by omega) (by rw [List.length_drop]; omega) (by rw [List.length_drop]; omega)
      rwa [List.drop_drop] at h
    have e5 : sh_codec_taker_number 1 ⟨txt (s.drop 15), false⟩ = some (((cnt s : Nat) : Int), (⟨txt (s.drop 16), false⟩ : Taker)) := by
      have h := pl_number_in (n := 1) (m := 1) rfl (s := s.drop 15) (b := false) (by omega) (by rw [List.length_drop]; omega) (by rw [List.length_drop]; omega)
      rwa [List.drop_drop] at h
    obtain ⟨r, f1, f2⟩ := pl_dec1 (p0 := ⟨0, 0, 0, 0, [], []⟩) (cnt s) (s := s.drop 16) (p := ⟨(num (s.take 1) : Nat), (num ((s.drop 1).take 6) : Nat), (num ((s.drop 7).take 1) : Nat), (num ((s.drop 8).take 7) : Nat), [], []⟩)
      (by rw [List.length_drop]; omega) (by have : cnt s < 256 := num_one_lt; simp only [List.length_nil]; omega)
    rw [Tr.run_bind e1, Tr.run_bind e2, Tr.run_bind e3, Tr.run_bind e4, Tr.run_bind e5, Tr.run_bind f1]
    rw [List.length_drop] at f2
    unfold decodeP
    by_cases h8 : 8 * cnt s ≤ s.length - 16
    · rw [if_pos h8, List.drop_drop] at f2
      rw [f2]
      simp only [List.nil_append]
      by_cases h1 : s.length < 17 + 8 * cnt s
      · rw [Tr.run_bind (pl_number_out (m := 1) (n := 1) rfl (by omega) (by rw [List.length_drop]; omega) (by rw [List.length_drop]; omega)), Tr.run_bind (pl_dec2_bad _ _ _), Tr.run_true (by simp), Tr.run_leaf, if_pos (by omega)]
        rfl
      · have e6 : sh_codec_taker_number 1 ⟨txt (s.drop (16 + 8 * cnt s)), false⟩ = some (((cnt2 s : Nat) : Int), (⟨txt (s.drop (17 + 8 * cnt s)), false⟩ : Taker)) := by
          have h := pl_number_in (n := 1) (m := 1) rfl (s := s.drop (16 + 8 * cnt s)) (b := false) (by omega) (by rw [List.length_drop]; omega) (by rw [List.length_drop]; omega)
          rwa [List.drop_drop, show 16 + 8 * cnt s + 1 = 17 + 8 * cnt s by omega] at h
        rw [Tr.run_bind e6]
        obtain ⟨r', g1, g2⟩ := pl_dec2 (p0 := ⟨0, 0, 0, 0, [], []⟩) (cnt2 s) (s := s.drop (17 + 8 * cnt s)) (p := ⟨(num (s.take 1) : Nat), (num ((s.drop 1).take 6) : Nat), (num ((s.drop 7).take 1) : Nat), (num ((s.drop 8).take 7) : Nat), rdS (cnt s) (s.drop 16), []⟩)
          (by rw [List.length_drop]; omega) (by have : cnt2 s < 256 := num_one_lt; simp only [List.length_nil]; omega)
        rw [Tr.run_bind g1]
        rw [List.length_drop] at g2
        by_cases h2 : cnt2 s ≤ s.length - (17 + 8 * cnt s)
        · rw [if_pos h2, List.drop_drop] at g2
          rw [g2]
          simp only [List.nil_append, ByteArray.toList_eq, txt_toList]
          by_cases h3 : s.length ≠ 17 + 8 * cnt s + cnt2 s
          · rw [if_pos h3, Tr.run_true (by simp; omega), Tr.run_leaf]
            rfl
          · rw [if_neg h3, Tr.run_false (by simp; omega)]
            refine (Tr.run_bind (pl_goodP (p := pkt s) (by rw [pkt, rdS_length]; have : cnt s < 256 := num_one_lt; omega) (by rw [pkt, rdD_length]; have : cnt2 s < 256 := num_one_lt; omega))).trans ?_
            by_cases h4 : goodP (pkt s) = 0
            · rw [if_neg (by simpa using h4), Tr.run_false (by simpa using h4), Tr.run_leaf]; rfl
            · rw [if_pos h4, Tr.run_true (by simpa using h4), Tr.run_leaf]; rfl
        · rw [if_neg h2] at g2
          rw [g2, Tr.run_true (by simp), Tr.run_leaf, if_pos (by omega)]
          rfl
    · rw [if_neg h8] at f2
      rw [f2, Tr.run_bind (pl_number_out (m := 1) (n := 1) rfl (by omega) (by simp) (by simp)), Tr.run_bind (pl_dec2_bad _ _ _), Tr.run_true (by simp), Tr.run_leaf, if_pos (by omega)]
      rfl
  · obtain ⟨v1, t1, e1, k1⟩ := num_short (m := 1) (n := 1) rfl (k := 15) (by omega) (by omega) (.inr ⟨s, rfl, by omega, by omega⟩)
    obtain ⟨v2, t2, e2, k2⟩ := num_short (m := 6) (n := 6) rfl (k := 9) (by omega) (by omega) k1
    obtain ⟨v3, t3, e3, k3⟩ := num_short (m := 1) (n := 1) rfl (k := 8) (by omega) (by omega) k2
    obtain ⟨v4, t4, e4, k4⟩ := num_short (m := 7) (n := 7) rfl (k := 1) (by omega) (by omega) k3
    obtain ⟨v5, t5, e5, k5⟩ := num_short (m := 1) (n := 1) rfl (k := 0) (by omega) (by omega) k4
    obtain rfl : t5 = ⟨txt [], true⟩ := by rcases k5 with h | ⟨_, _, h, _⟩; exact h; omega
    rw [Tr.run_bind e1, Tr.run_bind e2, Tr.run_bind e3, Tr.run_bind e4, Tr.run_bind e5, Tr.run_bind (pl_dec1_bad _ _ _),
      Tr.run_bind (pl_number_out (m := 1) (n := 1) rfl (by omega) (by simp) (by simp)), Tr.run_bind (pl_dec2_bad _ _ _), Tr.run_true (by simp), Tr.run_leaf]
    unfold decodeP
    rw [if_pos (by omega)]
    rfl

/-- A byte at a place. -/
theorem getD_byte {s : List UInt8} {k : Nat} (h : k < s.length) : (s.getD k 0).toNat = num ((s.drop k).take 1) := by
  rw [drop_step h 0]
  simp [num, numF]

theorem pl_numberOf {l : List UInt8} (hl : l.length ≤ 7) : sh_ref_numberOf (txt l) = some ((num l : Nat) : Int) := by
  have := iter_uptof (F := fun s : Int × (List UInt8) × Int × Int => (T_ref_numberOf_l1 s.1 s.2.1 s.2.2.1 s.2.2.2).run) l.length
    (fun i (v : Nat) => ((v : Int), l, (l.length : Int), (i : Int))) (fun i v => v < 256 ^ i) (fun i v => ((numF v (l.drop i) : Nat) : Int)) ?_ ?_ 0 0 (by omega) (by simp)
  · rw [sh_ref_numberOf, T_ref_numberOf, Tr.run_guard (by rw [txt_size]; omega), txt_toList]
    refine (Tr.run_bind (v := ((num l : Nat) : Int)) ?_).trans (Tr.run_leaf _)
    rw [sh_ref_numberOf_l1]; exact this
  · intro v hv
    simp only [T_ref_numberOf_l1]
    rw [Tr.run_false (by simp), Tr.run_leaf, List.drop_length]
    rfl
  · intro i v hi hv
    have hs := drop_step (l := l) (k := i) hi 0
    simp only [T_ref_numberOf_l1, Int.toNat_natCast]
    have hb : (256 : Nat) ^ i ≤ 256 ^ 6 := Nat.pow_le_pow_right (by omega) (by omega)
    have hc := (l.getD i 0).toNat_lt
    refine .inl ⟨256 * v + (l.getD i 0).toNat, ?_, by rw [Nat.pow_succ']; omega, ?_⟩
    · rw [Tr.run_true (by simpa using hi), Tr.run_guard ⟨by omega, by rw [sl_len_bytes]; omega⟩, Tr.run_leaf, i64_nat (by omega), i64_in (x := 256 * (v : Int)) (by omega) (by omega), i64_in (x := (((l.getD i 0).toNat : Nat) : Int)) (by omega) (by omega), i64_in (by omega) (by omega)]
      rw [show (256 * (v : Int) + (((l.getD i 0).toNat : Nat) : Int)) = ((256 * v + (l.getD i 0).toNat : Nat) : Int) by omega]
    · rw [hs]; rfl

theorem rdS_step (n : Nat) (s : List UInt8) : rdS (n + 1) s = ⟨(num (s.take 1) : Nat), (num ((s.drop 1).take 7) : Nat)⟩ :: rdS n (s.drop 8) := rfl
theorem rdD_step (n : Nat) (s : List UInt8) : rdD (n + 1) s = ((num (s.take 1) : Nat) : Int) :: rdD n (s.drop 1) := rfl

theorem pl_refdec1 {s : List UInt8} {n : Nat} {x2 : Int} {p4 p5 p6 : Packet} (hs : 16 + 8 * n ≤ s.length) (hn : n < 256) (hp : p6.Set = []) (hl : s.length ≤ 140737488355328) :
    sh_ref_DecodePacket_l1 (txt s) n x2 0 p4 p5 p6 = some (txt s, (n : Int), x2, p4, p5, { p6 with Set := rdS n (s.drop 16) }) := by
  have := iter_uptof (F := fun s : ByteArray × Int × Int × Int × Packet × Packet × Packet => (T_ref_DecodePacket_l1 s.1 s.2.1 s.2.2.1 s.2.2.2.1 s.2.2.2.2.1 s.2.2.2.2.2.1 s.2.2.2.2.2.2).run) n
    (fun i (p : Packet) => (txt s, (n : Int), x2, (i : Int), p4, p5, p)) (fun i p => p.Set.length = i) (fun i p => (txt s, (n : Int), x2, p4, p5, { p with Set := p.Set ++ rdS (n - i) (s.drop (16 + 8 * i)) })) ?_ ?_ 0 p6 (by omega) (by rw [hp]; rfl)
  · rw [sh_ref_DecodePacket_l1]
    rw [hp] at this
    exact this
  · intro p hp
    simp only [T_ref_DecodePacket_l1]
    rw [Tr.run_false (by simp), Tr.run_leaf, Nat.sub_self, rdS, List.append_nil]
  · intro i p hi hp
    have w1 : IntKind.i64.wrap (8 * (i : Int)) = 8 * (i : Int) := i64_in (by omega) (by omega)
    have w2 : IntKind.i64.wrap (16 + 8 * (i : Int)) = ((16 + 8 * i : Nat) : Int) := by rw [i64_in (by omega) (by omega)]; omega
    have w3 : IntKind.i64.wrap (((16 + 8 * i : Nat) : Int) + 1) = ((17 + 8 * i : Nat) : Int) := by rw [i64_in (by omega) (by omega)]; omega
    have w4 : IntKind.i64.wrap (((16 + 8 * i : Nat) : Int) + 8) = ((24 + 8 * i : Nat) : Int) := by rw [i64_in (by omega) (by omega)]; omega
    have hb := getD_byte (s := s) (k := 16 + 8 * i) (by omega)
    have hc := (s.getD (16 + 8 * i) 0).toNat_lt
    have e1 := pl_numberOf (l := (s.drop (17 + 8 * i)).take (24 + 8 * i - (17 + 8 * i))) (by rw [List.length_take]; omega)
    simp only [T_ref_DecodePacket_l1, w1, w2, w3, w4, Int.toNat_natCast, txt_size, txt_toList, txt_extract, e1, Option.isSome_some, Option.getD_some]
    rw [i64_in (x := (((s.getD (16 + 8 * i) 0).toNat : Nat) : Int)) (by omega) (by omega), hb]
    refine .inl ⟨{ p with Set := p.Set ++ [⟨(num ((s.drop (16 + 8 * i)).take 1) : Nat), (num ((s.drop (17 + 8 * i)).take (24 + 8 * i - (17 + 8 * i))) : Nat)⟩] }, ?_, by simp only [List.length_append, List.length_singleton]; omega, ?_⟩
    · rw [Tr.run_true (by simpa using hi), Tr.run_guard (by omega), Tr.run_guard (by omega), Tr.run_guard (by trivial), Tr.run_guard (by simp only [sl_len_powers, List.length_singleton]; omega), Tr.run_leaf, i64_nat (by omega)]
    · rw [show n - i = (n - (i + 1)) + 1 by omega, rdS_step, List.drop_drop, List.drop_drop, show 16 + 8 * i + 1 = 17 + 8 * i by omega, show 16 + 8 * i + 8 = 16 + 8 * (i + 1) by omega, show 24 + 8 * i - (17 + 8 * i) = 7 by omega]
      simp

theorem pl_refdec2 {s : List UInt8} {n m : Nat} {p4 p5 p6 : Packet} (hs : 17 + 8 * n + m ≤ s.length) (hn : n < 256) (hm : m < 256) (hp : p6.Done = []) (hl : s.length ≤ 140737488355328) :
    sh_ref_DecodePacket_l2 (txt s) n m 0 p4 p5 p6 = some (p4, p5, { p6 with Done := rdD m (s.drop (17 + 8 * n)) }) := by
  have := iter_uptof (F := fun s : ByteArray × Int × Int × Int × Packet × Packet × Packet => (T_ref_DecodePacket_l2 s.1 s.2.1 s.2.2.1 s.2.2.2.1 s.2.2.2.2.1 s.2.2.2.2.2.1 s.2.2.2.2.2.2).run) m
    (fun i (p : Packet) => (txt s, (n : Int), (m : Int), (i : Int), p4, p5, p)) (fun i p => p.Done.length = i) (fun i p => (p4, p5, { p with Done := p.Done ++ rdD (m - i) (s.drop (17 + 8 * n + i)) })) ?_ ?_ 0 p6 (by omega) (by rw [hp]; rfl)
  · rw [sh_ref_DecodePacket_l2]
    rw [hp] at this
    exact this
  · intro p hp
    simp only [T_ref_DecodePacket_l2]
    rw [Tr.run_false (by simp), Tr.run_leaf, Nat.sub_self, rdD, List.append_nil]
  · intro i p hi hp
    have w1 : IntKind.i64.wrap (8 * (n : Int)) = 8 * (n : Int) := i64_in (by omega) (by omega)
    have w2 : IntKind.i64.wrap (17 + 8 * (n : Int)) = 17 + 8 * (n : Int) := i64_in (by omega) (by omega)
    have w3 : IntKind.i64.wrap (17 + 8 * (n : Int) + (i : Int)) = ((17 + 8 * n + i : Nat) : Int) := by rw [i64_in (by omega) (by omega)]; omega
    have hb := getD_byte (s := s) (k := 17 + 8 * n + i) (by omega)
    have hc := (s.getD (17 + 8 * n + i) 0).toNat_lt
    simp only [T_ref_DecodePacket_l2, w1, w2, w3, Int.toNat_natCast, txt_size, txt_toList]
    rw [i64_in (x := (((s.getD (17 + 8 * n + i) 0).toNat : Nat) : Int)) (by omega) (by omega), hb]
    refine .inl ⟨{ p with Done := p.Done ++ [((num ((s.drop (17 + 8 * n + i)).take 1) : Nat) : Int)] }, ?_, by simp only [List.length_append, List.length_singleton]; omega, ?_⟩
    · rw [Tr.run_true (by simpa using hi), Tr.run_guard (by omega), Tr.run_guard (by simp only [sl_len_ints, List.length_singleton]; omega), Tr.run_leaf, i64_nat (by omega)]
    · rw [show m - i = (m - (i + 1)) + 1 by omega, rdD_step, List.drop_drop, show 17 + 8 * n + i + 1 = 17 + 8 * n + (i + 1) by omega]
      simp

theorem pl_refDecode {s : List UInt8} (hs : s.length ≤ 140737488355328) : sh_ref_DecodePacket (txt s) = some (decodeP s) := by
  rw [sh_ref_DecodePacket, T_ref_DecodePacket]
  unfold decodeP
  simp only [txt_toList, txt_extract]
  by_cases h17 : s.length < 17
  · rw [Tr.run_true (decide_eq_true (by simp only [txt_size]; omega)), Tr.run_leaf, if_pos (by omega)]; rfl
  · have hn : cnt s < 256 := num_one_lt
    have hm : cnt2 s < 256 := num_one_lt
    have b15 : (s.getD 15 0).toNat = cnt s := getD_byte (by omega)
    have w0 : IntKind.i64.wrap ((cnt s : Nat) : Int) = (cnt s : Int) := i64_in (by omega) (by omega)
    have w1 : IntKind.i64.wrap (8 * (cnt s : Int)) = 8 * (cnt s : Int) := i64_in (by omega) (by omega)
    have w2 : IntKind.i64.wrap (17 + 8 * (cnt s : Int)) = ((17 + 8 * cnt s : Nat) : Int) := by rw [i64_in (by omega) (by omega)]; omega
    have w3 : IntKind.i64.wrap (16 + 8 * (cnt s : Int)) = ((16 + 8 * cnt s : Nat) : Int) := by rw [i64_in (by omega) (by omega)]; omega
    simp only [b15, w0, w1, w2, w3, Int.toNat_natCast]
    rw [Tr.run_false (decide_eq_false (by simp only [txt_size]; omega)), Tr.run_guard (by simp only [txt_size]; omega)]
    by_cases h8 : s.length < 17 + 8 * cnt s
    · rw [Tr.run_true (decide_eq_true (by simp only [txt_size]; omega)), Tr.run_leaf, if_pos (by omega)]; rfl
    · have b16 : (s.getD (16 + 8 * cnt s) 0).toNat = cnt2 s := getD_byte (by omega)
      have w4 : IntKind.i64.wrap ((cnt2 s : Nat) : Int) = (cnt2 s : Int) := i64_in (by omega) (by omega)
      have w5 : IntKind.i64.wrap (((17 + 8 * cnt s : Nat) : Int) + (cnt2 s : Int)) = ((17 + 8 * cnt s + cnt2 s : Nat) : Int) := by rw [i64_in (by omega) (by omega)]; omega
      simp only [b16, w4, w5]
      rw [Tr.run_false (decide_eq_false (by simp only [txt_size]; omega)), Tr.run_guard (by simp only [txt_size]; omega)]
      by_cases hl : s.length ≠ 17 + 8 * cnt s + cnt2 s
      · rw [Tr.run_true (bne_iff_ne.2 (by simp only [txt_size]; omega)), Tr.run_leaf, if_pos hl]; rfl
      · have b0 : (s.getD 0 0).toNat = num (s.take 1) := getD_byte (k := 0) (by omega)
        have b7 : (s.getD 7 0).toNat = num ((s.drop 7).take 1) := getD_byte (by omega)
        have e1 := pl_numberOf (l := (s.drop 1).take (7 - 1)) (by rw [List.length_take]; omega)
        have e2 := pl_numberOf (l := (s.drop 8).take (15 - 8)) (by rw [List.length_take]; omega)
        have n0 : num (s.take 1) < 256 := num_one_lt
        have n7 : num ((s.drop 7).take 1) < 256 := num_one_lt
        simp only [e1, e2, b0, b7, Option.isSome_some, Option.getD_some]
        rw [if_neg hl, Tr.run_false (bne_eq_false_iff_eq.2 (by simp only [txt_size]; omega)), Tr.run_guard (by simp only [txt_size]; omega), Tr.run_guard (by simp only [txt_size]; omega), Tr.run_guard (by trivial), Tr.run_guard (by simp only [txt_size]; omega), Tr.run_guard (by simp only [txt_size]; omega), Tr.run_guard (by trivial),
          i64_in (x := ((num (s.take 1) : Nat) : Int)) (by omega) (by omega), i64_in (x := ((num ((s.drop 7).take 1) : Nat) : Int)) (by omega) (by omega)]
        rw [Tr.run_bind (pl_refdec1 (n := cnt s) (by omega) hn rfl hs)]
        simp only []
        rw [Tr.run_bind (pl_refdec2 (n := cnt s) (m := cnt2 s) (by omega) hn hm rfl hs)]
        refine (Tr.run_bind (pl_refgoodP (p := pkt s) (by rw [pkt, rdS_length]; omega) (by rw [pkt, rdD_length]; omega))).trans ?_
        by_cases h4 : goodP (pkt s) = 0
        · rw [if_neg (by simpa using h4), Tr.run_false (by simpa using h4), Tr.run_leaf]; rfl
        · rw [if_pos h4, Tr.run_true (by simpa using h4), Tr.run_leaf]; rfl

end Go.Proofs.Ythhdljniheaeoaa.Ab
