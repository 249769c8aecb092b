/-
  The set of a stake, with no program in sight: sorted by power, cut, sorted by number: who has fewer than four ahead.
-/
import Derived.Test.YtbpehnghffljiaaFStakeB
import Derived.Test.YtbpehnghffljiaaFRefB
import Derived.Test.YtbpehnghffljiaaPlStake3
import Derived.Test.YtbpehnghffljiaaAbSort2
import Derived.Sort.LotA
namespace Go.Proofs.Ytbpehnghffljiaa.Ab
open Go Go.RowKit
set_option linter.unusedVariables false
set_option linter.unusedSimpArgs false

/-! The library's insertion sort. -/

/-- Power falls; of one power the numbers rise. -/
def ltL (a b : Power) : Bool := decide (b.N < a.N) || (a.N == b.N && decide (a.V < b.V))
theorem ltL_iff {a b : Power} : ltL a b = true ↔ b.N < a.N ∨ (a.N = b.N ∧ a.V < b.V) := by unfold ltL; simp
theorem ltL_iff' {a b : Power} : ltL a b = false ↔ ¬ (b.N < a.N ∨ (a.N = b.N ∧ a.V < b.V)) := by rw [← ltL_iff]; simp
theorem swo_ltL : Sort.SWO ltL := ⟨fun x => by rw [ltL_iff']; omega, fun x y z => by simp only [ltL_iff]; omega, fun x y z => by simp only [ltL_iff']; omega⟩

theorem ins_place {lt : Power → Power → Bool} (a : Nat) : ∀ (j : Nat) (d : Array Power), j < d.size →
    (Sort.insInner lt a j d).size = d.size ∧ (∀ k, j < k → (Sort.insInner lt a j d)[k]! = d[k]!) ∧ ∀ k, k ≤ j → ∃ q, q ≤ j ∧ (Sort.insInner lt a j d)[k]! = d[q]!
  | 0, d, hj => by
    unfold Sort.insInner
    exact ⟨rfl, fun _ _ => rfl, fun k hk => ⟨k, hk, rfl⟩⟩
  | j + 1, d, hj => by
    unfold Sort.insInner
    split
    · obtain ⟨h1, h2, h3⟩ := ins_place (lt := lt) a j (Sort.swp d (j + 1) j) (by rw [Sort.swp_size]; omega)
      have g := Sort.swp_get d hj (show j < d.size by omega)
      refine ⟨by rw [h1, Sort.swp_size], fun k hk => ?_, fun k hk => ?_⟩
      · rw [h2 k (by omega), g, if_neg (by omega), if_neg (by omega)]
      · by_cases he : k = j + 1
        · exact ⟨j, by omega, by rw [h2 k (by omega), g, if_neg (by omega), if_pos he]⟩
        · obtain ⟨q, q1, q2⟩ := h3 k (by omega)
          by_cases hq : q = j
          · exact ⟨j + 1, by omega, by rw [q2, g, if_pos hq]⟩
          · exact ⟨q, by omega, by rw [q2, g, if_neg hq, if_neg (by omega)]⟩
    · exact ⟨rfl, fun _ _ => rfl, fun k hk => ⟨k, hk, rfl⟩⟩

theorem ins_same (a : Nat) : ∀ (j : Nat) (d : Array Power), j < d.size → (∀ k, k < j → d[k]!.V < d[j]!.V) → Sort.insInner ltN a j d = Sort.insInner ltL a j d
  | 0, d, _, _ => by unfold Sort.insInner; rfl
  | j + 1, d, hj, h => by
    have e : ltN d[j + 1]! d[j]! = ltL d[j + 1]! d[j]! := by
      have := h j (by omega)
      unfold ltN ltL
      rw [Bool.eq_iff_iff]; simp; omega
    unfold Sort.insInner
    rw [e]
    split
    · have g := Sort.swp_get d hj (show j < d.size by omega)
      refine ins_same a j _ (by rw [Sort.swp_size]; omega) (fun k hk => ?_)
      rw [g, g, if_neg (by omega), if_neg (by omega), if_pos rfl]
      exact h k (by omega)
    · rfl

theorem insO_same (a b : Nat) : ∀ (n i : Nat) (d : Array Power), b - i = n → b ≤ d.size → (∀ k m, k < m → i ≤ m → m < b → d[k]!.V < d[m]!.V) → Sort.insOuter ltN a b i d = Sort.insOuter ltL a b i d
  | 0, i, d, hn, _, _ => by
    rw [Sort.insOuter, if_neg (by omega), Sort.insOuter, if_neg (by omega)]
  | n + 1, i, d, hn, hb, h => by
    rw [Sort.insOuter, if_pos (by omega)]
    conv => rhs; rw [Sort.insOuter, if_pos (show i < b by omega)]
    rw [ins_same a i d (by omega) (fun k hk => h k i hk (Nat.le_refl _) (by omega))]
    obtain ⟨h1, h2, h3⟩ := ins_place (lt := ltL) a i d (by omega)
    refine insO_same a b n (i + 1) _ (by omega) (by rw [h1]; exact hb) (fun k m hk hm hmb => ?_)
    rw [h2 m (by omega)]
    by_cases hki : k ≤ i
    · obtain ⟨q, q1, q2⟩ := h3 k hki
      rw [q2]
      exact h q m (by omega) (by omega) hmb
    · rw [h2 k (by omega)]
      exact h k m hk (by omega) hmb

theorem sort_pw {lt : Power → Power → Bool} (hs : Sort.SWO lt) (l : List Power) : ((Sort.insertionSort lt l.toArray 0 l.length).toList).Perm l ∧ ((Sort.insertionSort lt l.toArray 0 l.length).toList).Pairwise (fun a b => lt b a = false) := by
  obtain ⟨⟨h1, h2, h3⟩, h4⟩ := Sort.insertionSort_holds hs l.toArray 0 l.length (by omega) (by simp)
  obtain ⟨r, hr⟩ : ∃ r, r = Sort.insertionSort lt l.toArray 0 l.length := ⟨_, rfl⟩
  rw [← hr] at h1 h2 h3 h4 ⊢
  have hsz : r.size = l.length := by rw [h1]; simp
  refine ⟨?_, ?_⟩
  · have e1 : (r.extract 0 l.length).toList = r.toList := by rw [← hsz]; simp
    have e2 : (l.toArray.extract 0 l.length).toList = l := by simp
    rwa [e1, e2] at h3
  · rw [List.pairwise_iff_getElem]
    intro i j hi hj hij
    have := h4 i j (by omega) hij (by simpa [hsz] using hj)
    rw [Array.length_toList] at hi hj
    rwa [getElem!_pos r j hj, getElem!_pos r i hi] at this

/-! Lists in order. -/

theorem sorted_ext : ∀ {l m : List Power}, l.Pairwise (fun a b => a.V < b.V) → m.Pairwise (fun a b => a.V < b.V) → (∀ p, p ∈ l ↔ p ∈ m) → l = m
  | [], [], _, _, _ => rfl
  | [], b :: m, _, _, h => by have := (h b).2 (List.mem_cons_self ..); cases this
  | a :: l, [], _, _, h => by have := (h a).1 (List.mem_cons_self ..); cases this
  | a :: l, b :: m, hl, hm, h => by
    rw [List.pairwise_cons] at hl hm
    have hab : a = b := by
      rcases List.mem_cons.1 ((h a).1 (List.mem_cons_self ..)) with h1 | h1
      · exact h1
      · rcases List.mem_cons.1 ((h b).2 (List.mem_cons_self ..)) with h2 | h2
        · exact h2.symm
        · have k1 := hm.1 a h1
          have k2 := hl.1 b h2
          omega
    subst hab
    congr 1
    refine sorted_ext hl.2 hm.2 fun p => ⟨fun hp => ?_, fun hp => ?_⟩
    · rcases List.mem_cons.1 ((h p).1 (List.mem_cons_of_mem _ hp)) with h1 | h1
      · have := hl.1 p hp; rw [h1] at this; omega
      · exact h1
    · rcases List.mem_cons.1 ((h p).2 (List.mem_cons_of_mem _ hp)) with h1 | h1
      · have := hm.1 p hp; rw [h1] at this; omega
      · exact h1

/-- Who is among the first k of a list in order: who has fewer than k ahead. -/
theorem mem_take {R : Power → Power → Bool} (hi : ∀ a, R a a = false) (ha : ∀ a b, R a b = true → R b a = false) : ∀ {l : List Power} {k : Nat} {p : Power}, l.Pairwise (fun a b => R a b = true) → (p ∈ l.take k ↔ p ∈ l ∧ l.countP (fun q => R q p) < k)
  | [], k, p, _ => by simp
  | a :: l, 0, p, _ => by simp
  | a :: l, k + 1, p, h => by
    rw [List.pairwise_cons] at h
    rw [List.take_succ_cons, List.mem_cons, List.mem_cons, mem_take hi ha h.2, List.countP_cons]
    by_cases hpa : p = a
    · subst hpa
      have h0 : l.countP (fun q => R q p) = 0 := by
        rw [List.countP_eq_zero]
        intro q hq
        rw [ha _ _ (h.1 q hq)]; simp
      rw [h0, hi]; simp
    · simp only [hpa, false_or]
      constructor
      · rintro ⟨h1, h2⟩
        rw [h.1 p h1]
        exact ⟨h1, by simp; omega⟩
      · rintro ⟨h1, h2⟩
        rw [h.1 p h1] at h2
        simp at h2
        exact ⟨h1, by omega⟩

/-! Who is ahead. -/

def aheadB (f : Nat → Int) (v u : Nat) : Bool := decide (f u > f v) || (f u == f v && decide ((u : Int) < v))
def aheadN (f : Nat → Int) (v : Nat) : Nat := (List.range 6).countP (aheadB f v)
def topF (f : Nat → Int) (v : Nat) : Int := if aheadN f v < 4 then f v else 0

theorem setOf_flat (f : Nat → Int) : setOf f = (List.range 6).flatMap (fun (v : Nat) => oneP (v : Int) (f v)) := by
  unfold setOf
  rw [List.foldl_append_eq_append, List.nil_append, List.flatMap_def]
theorem mem_oneP {v n : Int} {p : Power} : p ∈ oneP v n ↔ 0 < n ∧ p = ⟨v, n⟩ := by
  unfold oneP
  by_cases h : 0 < n
  · rw [if_pos h]; simp [h]
  · rw [if_neg h]; simp [h]
theorem mem_setOf {f : Nat → Int} {p : Power} : p ∈ setOf f ↔ ∃ v : Nat, v < 6 ∧ 0 < f v ∧ p = ⟨v, f v⟩ := by
  rw [setOf_flat, List.mem_flatMap]
  constructor
  · rintro ⟨v, h1, h2⟩; exact ⟨v, List.mem_range.1 h1, mem_oneP.1 h2⟩
  · rintro ⟨v, h1, h2⟩; exact ⟨v, List.mem_range.2 h1, mem_oneP.2 h2⟩
theorem setOf_sorted (f : Nat → Int) : (setOf f).Pairwise (fun a b => a.V < b.V) := by
  rw [setOf_flat, List.pairwise_flatMap]
  refine ⟨fun v _ => ?_, ?_⟩
  · unfold oneP; split <;> simp
  · refine List.Pairwise.imp ?_ (List.pairwise_lt_range (n := 6))
    intro u v huv x hx y hy
    rw [(mem_oneP.1 hx).2, (mem_oneP.1 hy).2]
    show (u : Int) < v
    omega

theorem count_flat {p : Power → Bool} {q : Nat → Bool} {g : Nat → List Power} : ∀ {l : List Nat}, (∀ u, u ∈ l → (g u).countP p = if q u = true then 1 else 0) → (l.flatMap g).countP p = l.countP q
  | [], _ => rfl
  | u :: l, h => by
    rw [List.flatMap_cons, List.countP_append, h u (List.mem_cons_self ..), count_flat fun x hx => h x (List.mem_cons_of_mem _ hx), List.countP_cons, Nat.add_comm]

theorem count_setOf {f : Nat → Int} {v : Nat} (hv : 0 < f v) : (setOf f).countP (fun q => ltL q ⟨v, f v⟩) = aheadN f v := by
  rw [setOf_flat]
  refine count_flat fun u _ => ?_
  unfold oneP
  by_cases hu : 0 < f u
  · rw [if_pos hu, List.countP_singleton]
    have e : ltL ⟨u, f u⟩ ⟨v, f v⟩ = aheadB f v u := rfl
    rw [e]
  · rw [if_neg hu, List.countP_nil]
    have e : aheadB f v u = false := by
      unfold aheadB
      simp only [Bool.or_eq_false_iff, Bool.and_eq_false_iff, decide_eq_false_iff_not, beq_eq_false_iff_ne]
      omega
    rw [e]; simp

theorem sort_top {f : Nat → Int} (hf : ∀ v, 0 ≤ f v) : ∃ l1, sortP ltN (setOf f) = some l1 ∧ l1.length ≤ 6 ∧ sortP ltV (l1.take 4) = some (setOf (topF f)) := by
  have h6 := setOf_len f
  have hs := setOf_sorted f
  have e1 : Sort.insertionSort ltN (setOf f).toArray 0 (setOf f).length = Sort.insertionSort ltL (setOf f).toArray 0 (setOf f).length := by
    unfold Sort.insertionSort
    refine insO_same 0 _ _ 1 _ rfl (by simp) (fun k m hkm h1 hm => ?_)
    rw [List.pairwise_iff_getElem] at hs
    have := hs k m (by omega) hm hkm
    rwa [getElem!_pos _ m (by simpa using hm), getElem!_pos _ k (by simp; omega)]
  obtain ⟨p1, p2⟩ := sort_pw swo_ltL (setOf f)
  obtain ⟨l1, hl1⟩ : ∃ l1, l1 = (Sort.insertionSort ltL (setOf f).toArray 0 (setOf f).length).toList := ⟨_, rfl⟩
  rw [← hl1] at p1 p2
  have hlen : l1.length ≤ 6 := by rw [p1.length_eq]; exact h6
  have hnd : (setOf f).Pairwise (fun a b => a.V ≠ b.V) := hs.imp fun h => by omega
  have hnd1 : l1.Pairwise (fun a b => a.V ≠ b.V) := (p1.pairwise_iff (fun h => Ne.symm h)).2 hnd
  have hL : l1.Pairwise (fun a b => ltL a b = true) := by
    refine List.Pairwise.imp₂ (R := fun a b => a.V ≠ b.V) (S := fun a b => ltL b a = false) ?_ hnd1 p2
    intro a b h1 h2
    rw [ltL_iff'] at h2
    rw [ltL_iff]; omega
  refine ⟨l1, ?_, hlen, ?_⟩
  · unfold sortP
    rw [if_pos (by omega), e1, hl1]
  · obtain ⟨q1, q2⟩ := sort_pw swo_ltV (l1.take 4)
    have h4 : (l1.take 4).length ≤ 12 := by rw [List.length_take]; omega
    unfold sortP
    rw [if_pos h4]
    congr 1
    obtain ⟨l2, hl2⟩ : ∃ l2, l2 = (Sort.insertionSort ltV (l1.take 4).toArray 0 (l1.take 4).length).toList := ⟨_, rfl⟩
    rw [← hl2] at q1 q2 ⊢
    have hnd2 : l2.Pairwise (fun a b => a.V ≠ b.V) := (q1.pairwise_iff (fun h => Ne.symm h)).2 (hnd1.sublist (List.take_sublist _ _))
    refine sorted_ext ?_ (setOf_sorted _) ?_
    · refine List.Pairwise.imp₂ (R := fun a b => a.V ≠ b.V) (S := fun a b => ltV b a = false) ?_ hnd2 q2
      intro a b h1 h2
      unfold ltV at h2
      rw [decide_eq_false_iff_not] at h2
      omega
    · intro p
      rw [q1.mem_iff, mem_take swo_ltL.irrefl (fun a b h => swo_ltL.asymmA h) hL, p1.mem_iff, p1.countP_eq, mem_setOf, mem_setOf]
      constructor
      · rintro ⟨⟨v, hv, hp, rfl⟩, hc⟩
        rw [count_setOf hp] at hc
        have e : topF f v = f v := by unfold topF; rw [if_pos hc]
        exact ⟨v, hv, by rw [e]; exact hp, by rw [e]⟩
      · rintro ⟨v, hv, hp, rfl⟩
        have hc : aheadN f v < 4 := by
          unfold topF at hp
          by_cases h : aheadN f v < 4
          · exact h
          · rw [if_neg h] at hp; omega
        have e : topF f v = f v := by unfold topF; rw [if_pos hc]
        rw [e] at hp ⊢
        exact ⟨⟨v, hv, hp, rfl⟩, by rw [count_setOf hp]; exact hc⟩

/-! The set. -/

def nvF (s : Stake) (v : Nat) : Int := if s.Validators.Jailed.get v = true then 0 else s.Validators.Tokens.get v / 100
def setS (s : Stake) : List Power := setOf (topF (nvF s))

theorem nvF_nn {s : Stake} (hg : GoodS s) {v : Nat} (hv : v < 6) : 0 ≤ nvF s v ∧ nvF s v ≤ 1125899906842624 := by
  have h := (hg.at (v := v) (by omega)).1.1
  unfold inA at h
  unfold nvF
  split <;> omega

/-- Powers of no more than the six. -/
def cutF (f : Nat → Int) (v : Nat) : Int := if v < 6 then f v else 0
theorem setOf_cut (f : Nat → Int) : setOf (cutF f) = setOf f := setOf_congr fun v hv => by unfold cutF; rw [if_pos hv]
theorem topF_cut (f : Nat → Int) {v : Nat} (hv : v < 6) : topF (cutF f) v = topF f v := by
  have e : ∀ u, u < 6 → cutF f u = f u := fun u hu => by unfold cutF; rw [if_pos hu]
  have e2 : aheadN (cutF f) v = aheadN f v := by
    unfold aheadN
    refine List.countP_congr fun u hu => ?_
    unfold aheadB
    rw [e u (List.mem_range.1 hu), e v hv]
  unfold topF
  rw [e2, e v hv]

theorem tdiv100 {x : Int} (h : inA x) : IntKind.i64.wrap (Int.tdiv x 100) = x / 100 := by
  unfold inA at h
  rw [Int.tdiv_eq_ediv_of_nonneg h.1, i64_in (by omega) (by omega)]

theorem pl_Set {s : Stake} (hg : GoodS s) : sh_stake_Set s = some (setS s) := by
  have key : sh_stake_Set_l1 (vsA s) 0 [] = some (setOf (nvF s)) := by
    rw [sh_stake_Set_l1]
    refine loop_fold (F := fun s : (A6 Validator) × Int × (List Power) => (T_stake_Set_l1 s.1 s.2.1 s.2.2).run) (List.range 6) 0
      (fun i t => (vsA s, (i : Int), t)) (fun i t => t.length ≤ i) (fun t (v : Nat) => t ++ oneP v (nvF s v)) (fun t => t) ?_ ?_ [] (by simp)
    · intro t _
      simp only [T_stake_Set_l1, List.length_range]; rw [Tr.run_false (by rfl), Tr.run_leaf]
    · intro i t hi ht
      rw [List.length_range] at hi
      rw [range_getD hi]
      have h1 := oneP_len i (nvF s i)
      have h2 := (hg.at (v := i) (by omega)).1.1
      refine ⟨?_, by rw [List.length_append]; omega⟩
      simp only [T_stake_Set_l1]
      rw [vsA_J, vsA_T, tdiv100 h2, Tr.run_true (by simp; omega), Tr.run_guard (by omega), Tr.run_guard (by omega)]
      unfold oneP
      by_cases hj : s.Validators.Jailed.get i = true
      · have e : nvF s i = 0 := by unfold nvF; rw [if_pos hj]
        rw [Tr.run_false (by rw [hj]; rfl), Tr.run_leaf, e, if_neg (by omega), List.append_nil, i64_nat (by omega)]
      · have e : nvF s i = s.Validators.Tokens.get i / 100 := by unfold nvF; rw [if_neg hj]
        rw [e]
        by_cases hp : 0 < s.Validators.Tokens.get i / 100
        · rw [if_pos hp, Tr.run_true (by simp only [Bool.and_eq_true, Bool.not_eq_true', decide_eq_true_eq]; exact ⟨by simpa using hj, hp⟩), Tr.run_guard (by simp only [sl_len_powers, List.length_singleton]; omega), Tr.run_leaf, i64_nat (by omega)]
        · rw [if_neg hp, Tr.run_false (by simp only [Bool.and_eq_false_iff, decide_eq_false_iff_not]; exact .inr hp), Tr.run_leaf, i64_nat (by omega), List.append_nil]
  have hc : ∀ v, 0 ≤ cutF (nvF s) v := by
    intro v
    unfold cutF
    split
    · rename_i h; exact (nvF_nn hg h).1
    · omega
  obtain ⟨l1, h1, h2, h3⟩ := sort_top hc
  rw [setOf_cut] at h1
  rw [setOf_congr (fun v hv => topF_cut (nvF s) hv)] at h3
  rw [sh_stake_Set, T_stake_Set]
  refine (Tr.run_bind key).trans ?_
  rw [Tr.run_bind (show sh_sort_SliceStable (setOf (nvF s)) = some l1 from h1), Tr.run_guard (by rw [sl_len_powers]; split <;> omega)]
  have e : (l1.drop 0).take ((if 4 < ((l1.length : Nat) : Int) then 4 else ((l1.length : Nat) : Int)).toNat - 0) = l1.take 4 := by
    rw [List.drop_zero]
    by_cases h : 4 < ((l1.length : Nat) : Int)
    · rw [if_pos h]; rfl
    · rw [if_neg h, List.take_of_length_le (by omega), List.take_of_length_le (by omega)]
  rw [e, Tr.run_bind (show sh_sort_Slice (l1.take 4) = some (setOf (topF (nvF s))) from h3), Tr.run_leaf]
  rfl

def partA (f : Nat → Int) (i : Nat) : A6 Int := ⟨if 0 < i then f 0 else 0, if 1 < i then f 1 else 0, if 2 < i then f 2 else 0, if 3 < i then f 3 else 0, if 4 < i then f 4 else 0, if 5 < i then f 5 else 0⟩
theorem partA_set (f : Nat → Int) {i : Nat} (hi : i < 6) : (partA f i).set (i : Int) (f i) = partA f (i + 1) := by
  obtain rfl | rfl | rfl | rfl | rfl | rfl : i = 0 ∨ i = 1 ∨ i = 2 ∨ i = 3 ∨ i = 4 ∨ i = 5 := by omega
  all_goals rfl
theorem partA_skip (f : Nat → Int) {i : Nat} (hi : i < 6) (h : f i = 0) : partA f i = partA f (i + 1) := by
  obtain rfl | rfl | rfl | rfl | rfl | rfl : i = 0 ∨ i = 1 ∨ i = 2 ∨ i = 3 ∨ i = 4 ∨ i = 5 := by omega
  all_goals simp [partA, h]

theorem count_fold (p : Nat → Bool) : ∀ (l : List Nat) (t : Int), l.foldl (fun t u => if p u = true then t + 1 else t) t = t + (l.countP p : Int)
  | [], t => by simp
  | u :: l, t => by
    rw [List.foldl_cons, count_fold p l, List.countP_cons]
    split <;> (simp only [Nat.add_zero, Int.natCast_add, Int.natCast_one]; try omega)

theorem pl_refSet {s : Stake} (hg : GoodS s) : sh_ref_Set s = some (setS s) := by
  have k1 : sh_ref_Set_l1 (vsA s) 0 (⟨0, 0, 0, 0, 0, 0⟩ : A6 Int) = some ⟨nvF s 0, nvF s 1, nvF s 2, nvF s 3, nvF s 4, nvF s 5⟩ := by
    rw [sh_ref_Set_l1]
    exact iter_uptof (F := fun s : (A6 Validator) × Int × (A6 Int) => (T_ref_Set_l1 s.1 s.2.1 s.2.2).run) 6 (fun i t => (vsA s, (i : Int), t)) (fun i t => t = partA (nvF s) i) (fun _ _ => (⟨nvF s 0, nvF s 1, nvF s 2, nvF s 3, nvF s 4, nvF s 5⟩ : A6 Int)) (by
        intro t ht
        simp only [T_ref_Set_l1]; rw [Tr.run_false (by rfl), Tr.run_leaf, ht]; rfl) (by
        intro i t hi ht
        have h2 := (hg.at (v := i) (by omega)).1.1
        simp only [T_ref_Set_l1]
        rw [vsA_J, vsA_T, tdiv100 h2, Tr.run_true (by simp; omega), Tr.run_guard (by omega)]
        by_cases hj : s.Validators.Jailed.get i = true
        · have e : nvF s i = 0 := by unfold nvF; rw [if_pos hj]
          exact .inl ⟨t, by rw [Tr.run_false (by rw [hj]; rfl), Tr.run_leaf, i64_nat (by omega)], by rw [ht, partA_skip _ hi e], trivial⟩
        · have e : nvF s i = s.Validators.Tokens.get i / 100 := by unfold nvF; rw [if_neg hj]
          refine .inl ⟨t.set i (nvF s i), by rw [Tr.run_true (by simpa using hj), Tr.run_guard (by omega), Tr.run_guard (by omega), Tr.run_leaf, i64_nat (by omega), e], by rw [ht, partA_set _ hi], trivial⟩) 0 _ (by omega) rfl
  have k2 : ∀ (v : Nat) (l : List Power), v < 6 → sh_ref_Set_l2 v 0 v 0 (⟨nvF s 0, nvF s 1, nvF s 2, nvF s 3, nvF s 4, nvF s 5⟩ : A6 Int) l = some ((v : Int), (aheadN (nvF s) v : Int), (v : Int), (⟨nvF s 0, nvF s 1, nvF s 2, nvF s 3, nvF s 4, nvF s 5⟩ : A6 Int), l) := by
    intro v l hv
    have := loop_fold (F := fun s : Int × Int × Int × Int × (A6 Int) × (List Power) => (T_ref_Set_l2 s.1 s.2.1 s.2.2.1 s.2.2.2.1 s.2.2.2.2.1 s.2.2.2.2.2).run) (List.range 6) 0
      (fun i t => ((v : Int), t, (v : Int), (i : Int), (⟨nvF s 0, nvF s 1, nvF s 2, nvF s 3, nvF s 4, nvF s 5⟩ : A6 Int), l)) (fun i t => 0 ≤ t ∧ t ≤ i) (fun t u => if aheadB (nvF s) v u = true then t + 1 else t) (fun t => ((v : Int), t, (v : Int), (⟨nvF s 0, nvF s 1, nvF s 2, nvF s 3, nvF s 4, nvF s 5⟩ : A6 Int), l)) (by
        intro t _
        simp only [T_ref_Set_l2, List.length_range]; rw [Tr.run_false (by rfl), Tr.run_leaf]) (by
        intro i t hi ht
        rw [List.length_range] at hi
        rw [range_getD hi]
        refine ⟨?_, by split <;> omega⟩
        simp only [T_ref_Set_l2]
        rw [A6_get (nvF s) hi, A6_get (nvF s) hv, Tr.run_true (by simp; omega), Tr.run_guard (by omega), Tr.run_guard (by omega), Tr.run_guard (fun _ => ⟨by omega, trivial⟩), Tr.run_guard (fun _ => ⟨by omega, trivial⟩)]
        by_cases ha : aheadB (nvF s) v i = true
        · rw [if_pos ha, Tr.run_true (by unfold aheadB at ha; exact ha), Tr.run_leaf, i64_nat (by omega), i64_in (by omega) (by omega)]
        · rw [if_neg ha, Tr.run_false (by unfold aheadB at ha; simpa using ha), Tr.run_leaf, i64_nat (by omega)]) 0 ⟨by omega, by omega⟩
    rw [count_fold, Int.zero_add] at this
    rw [sh_ref_Set_l2]
    exact this
  have k3 : sh_ref_Set_l3 0 (⟨nvF s 0, nvF s 1, nvF s 2, nvF s 3, nvF s 4, nvF s 5⟩ : A6 Int) [] = some (setS s) := by
    rw [sh_ref_Set_l3]
    refine loop_fold (F := fun s : Int × (A6 Int) × (List Power) => (T_ref_Set_l3 s.1 s.2.1 s.2.2).run) (List.range 6) 0
      (fun i t => ((i : Int), (⟨nvF s 0, nvF s 1, nvF s 2, nvF s 3, nvF s 4, nvF s 5⟩ : A6 Int), t)) (fun i t => t.length ≤ i) (fun t (v : Nat) => t ++ oneP v (topF (nvF s) v)) (fun t => t) ?_ ?_ [] (by simp)
    · intro t _
      simp only [T_ref_Set_l3, List.length_range]; rw [Tr.run_false (by rfl), Tr.run_leaf]
    · intro i t hi ht
      rw [List.length_range] at hi
      rw [range_getD hi]
      have h1 := oneP_len i (topF (nvF s) i)
      refine ⟨?_, by rw [List.length_append]; omega⟩
      simp only [T_ref_Set_l3]
      rw [Tr.run_true (by simp; omega), Tr.run_bind (k2 i t hi)]
      simp only []
      rw [A6_get (nvF s) hi, Tr.run_guard (by omega)]
      unfold topF
      by_cases ha : aheadN (nvF s) i < 4
      · rw [if_pos ha]
        unfold oneP
        by_cases hp : 0 < nvF s i
        · rw [if_pos hp, Tr.run_true (by simp only [Bool.and_eq_true, decide_eq_true_eq]; omega), Tr.run_guard (by omega), Tr.run_guard (by simp only [sl_len_powers, List.length_singleton]; omega), Tr.run_leaf, i64_nat (by omega)]
        · rw [if_neg hp, Tr.run_false (by simp only [Bool.and_eq_false_iff, decide_eq_false_iff_not]; omega), Tr.run_leaf, i64_nat (by omega), List.append_nil]
      · rw [if_neg ha, Tr.run_false (by simp only [Bool.and_eq_false_iff, decide_eq_false_iff_not]; omega), Tr.run_leaf, i64_nat (by omega)]
        show _ = some (Sum.inl (_, _, t ++ oneP (i : Int) 0))
        rw [show oneP (i : Int) 0 = [] from rfl, List.append_nil]
  rw [sh_ref_Set, T_ref_Set]
  exact (Tr.run_bind k1).trans ((Tr.run_bind k3).trans (Tr.run_leaf _))

end Go.Proofs.Ytbpehnghffljiaa.Ab
