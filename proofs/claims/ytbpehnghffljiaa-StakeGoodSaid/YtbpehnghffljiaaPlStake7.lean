/-
  The laws of stakes without the document: sets, changes, what is paid, rounds, slashes, rows of orders.
-/
import Derived.Test.YtbpehnghffljiaaFStakeLaw
import Derived.Test.YtbpehnghffljiaaFStakeB
import Derived.Test.YtbpehnghffljiaaPlStake6
namespace Go.Proofs.Ytbpehnghffljiaa.Ab
open Go Go.RowKit
set_option linter.unusedVariables false
set_option linter.unusedSimpArgs false

theorem pl_keepstakes : sh_keep_stakes = some true := by
  rw [sh_keep_stakes, T_keep_stakes, Tr.run_bind pl_stakeNew, Tr.run_bind (pl_Delegate (by omega)), delegate_new, Tr.run_bind (pl_Set oneS_good), set_one]
  simp only [pl_stakeGood, oneS_good, Option.isSome_some, Option.getD_some]
  rw [Tr.run_guard (by simp), Tr.run_guard (by intro _; exact ⟨⟨by omega, by rw [sl_len_powers]; simp⟩, trivial⟩), Tr.run_leaf]
  simp

/-! Changes. -/

theorem fP_setOf {f : Nat → Int} (hf : ∀ v, 0 ≤ f v) {v : Nat} (hv : v < 6) : fP (setOf f) v = f v := findP_setOf hf hv
theorem diffOf_congr {f f' g g' : Nat → Int} (h1 : ∀ v, v < 6 → f v = f' v) (h2 : ∀ v, v < 6 → g v = g' v) : diffOf f g = diffOf f' g' := by
  rw [diffOf_eq, diffOf_eq, h1 0 (by omega), h1 1 (by omega), h1 2 (by omega), h1 3 (by omega), h1 4 (by omega), h1 5 (by omega), h2 0 (by omega), h2 1 (by omega), h2 2 (by omega), h2 3 (by omega), h2 4 (by omega), h2 5 (by omega)]
theorem diffOf_self (f : Nat → Int) : diffOf f f = [] := by
  rw [diffOf_eq]; simp [twoP]
theorem apply_none {f : Nat → Int} (hf : ∀ v, 0 ≤ f v) : applyP (setOf f) [] = setOf f := by
  unfold applyP
  refine setOf_congr fun v hv => ?_
  simp only [lastP, List.foldl_nil]
  exact findP_setOf hf hv

theorem pl_StakeDiffs {x y z : List Int} : sh_keep_StakeDiffs x y z = some true := by
  have ha : ∀ v, 0 ≤ madeF x v := fun v => (madeF_bound x v).1
  have hb : ∀ v, 0 ≤ madeF y v := fun v => (madeF_bound y v).1
  have hc : ∀ v, 0 ≤ madeF z v := fun v => (madeF_bound z v).1
  have la := setOf_len (madeF x); have lb := setOf_len (madeF y); have lc := setOf_len (madeF z)
  have ld := diffOf_len (madeF x) (madeF y); have le := diffOf_len (madeF y) (madeF z)
  have d0 : sh_stake_Diff (setOf (madeF x)) (setOf (madeF x)) = some [] := by rw [pl_Diff ha ha, diffOf_self]
  have a0 : sh_stake_Apply (setOf (madeF x)) [] = some (setOf (madeF x)) := by rw [pl_Apply (by omega) (by simp), apply_none ha]
  have key : ∀ x3 x4, sh_keep_StakeDiffs_l1 (setOf (madeF x)) (setOf (madeF y)) (setOf (madeF z)) x3 x4 0 (setOf (madeF x)) (setOf (madeF x)).length 0 = some (setOf (madeF x), setOf (madeF y), setOf (madeF z), x3, x4, allP (setOf (madeF x))) := by
    intro x3 x4
    rw [sh_keep_StakeDiffs_l1]
    generalize setOf (madeF x) = l at *
    refine loop_fold (F := fun s : (List Power) × (List Power) × (List Power) × (List Power) × (List Power) × Int × (List Power) × Int × Int => (T_keep_StakeDiffs_l1 s.1 s.2.1 s.2.2.1 s.2.2.2.1 s.2.2.2.2.1 s.2.2.2.2.2.1 s.2.2.2.2.2.2.1 s.2.2.2.2.2.2.2.1 s.2.2.2.2.2.2.2.2).run) l default
      (fun i t => (l, setOf (madeF y), setOf (madeF z), x3, x4, t, l, (l.length : Int), (i : Int))) (fun _ _ => True) (fun t p => IntKind.i64.wrap (t + p.N)) (fun t => (l, setOf (madeF y), setOf (madeF z), x3, x4, t)) ?_ ?_ 0 trivial
    · intro t _
      simp only [T_keep_StakeDiffs_l1]; rw [Tr.run_false (by simp), Tr.run_leaf]
    · intro i t hi _
      refine ⟨?_, trivial⟩
      simp only [T_keep_StakeDiffs_l1]
      rw [Int.toNat_natCast, Tr.run_true (by simpa using hi), Tr.run_guard ⟨by omega, by rw [sl_len_powers]; omega⟩, Tr.run_leaf, i64_nat (by omega)]
  rw [sh_keep_StakeDiffs, T_keep_StakeDiffs, Tr.run_bind pl_made, Tr.run_bind pl_made, Tr.run_bind pl_made, Tr.run_bind (pl_Diff ha hb), Tr.run_bind (pl_Diff hb hc), Tr.run_bind (pl_Apply (by omega) (by omega)), apply_diff ha, Tr.run_bind (pl_Apply (by omega) (by omega)), apply_diff hb,
    Tr.run_bind (key _ _)]
  simp only []
  rw [Tr.run_bind (pl_Apply (by omega) (by omega)), apply_diff ha, Tr.run_bind (pl_samePw (by omega))]
  simp only [pl_samePw (l := setOf (madeF z)) (by omega), pl_samePw (l := setOf (madeF x)) (by omega), d0, a0, pl_All (l := setOf (madeF x)) (by omega), pl_keepstakes, Option.isSome_some, Option.getD_some]
  repeat rw [Tr.run_guard (by simp)]
  rw [Tr.run_leaf]
  simp

/-! The set. -/

theorem sortP_len {lt : Power → Power → Bool} (hs : Sort.SWO lt) {l r : List Power} (h : sortP lt l = some r) : r.length = l.length := by
  unfold sortP at h
  split at h
  · rw [← Option.some.inj h]; exact (sort_pw hs l).1.length_eq
  · cases h

theorem topF_len {f : Nat → Int} (hf : ∀ v, 0 ≤ f v) : (setOf (topF f)).length = min 4 (setOf f).length := by
  obtain ⟨l1, h1, h2, h3⟩ := sort_top hf
  rw [sortP_len swo_ltV h3, List.length_take, sortP_len swo_ltN h1]

theorem nv_eq {s : Stake} (hg : GoodS s) {v : Nat} (hv : v < 6) : topF (cutF (nvF s)) v = topF (nvF s) v := topF_cut _ hv

theorem setS_eq (s : Stake) : setS s = setOf (topF (cutF (nvF s))) := (setOf_congr fun v hv => topF_cut (nvF s) hv).symm
theorem cut_nn {s : Stake} (hg : GoodS s) (v : Nat) : 0 ≤ cutF (nvF s) v := by
  unfold cutF
  split
  · rename_i h; exact (nvF_nn hg h).1
  · omega

/-- What is said of everybody in a set. -/
theorem mem_setS {s : Stake} (hg : GoodS s) {p : Power} (h : p ∈ setS s) : (0 ≤ p.V ∧ p.V < 6) ∧ s.Validators.Jailed.get p.V = false ∧ p.N = s.Validators.Tokens.get p.V / 100 ∧ 1 ≤ p.N := by
  obtain ⟨v, hv, h1, rfl⟩ := mem_setOf.1 h
  have e : topF (nvF s) v = nvF s v := by
    unfold topF at h1 ⊢
    split
    · rfl
    · rename_i hn; rw [if_neg hn] at h1; omega
  rw [e] at h1
  have hj : s.Validators.Jailed.get v = false := by
    unfold nvF at h1
    cases hj : s.Validators.Jailed.get v
    · rfl
    · rw [hj, if_pos rfl] at h1; omega
  refine ⟨by show 0 ≤ (v : Int) ∧ (v : Int) < 6; omega, hj, ?_, by show 1 ≤ topF (nvF s) v; rw [e]; omega⟩
  show topF (nvF s) v = _
  rw [e]
  unfold nvF
  rw [hj]; rfl

/-- Who is left out has no more than anybody who is in, and the set is full. -/
theorem left_out {s : Stake} (hg : GoodS s) {v : Nat} (hv : v < 6) (hn : 0 < nvF s v) (ho : ∀ p, p ∈ setS s → p.V ≠ v) : (setS s).length = 4 ∧ ∀ p, p ∈ setS s → nvF s v ≤ p.N := by
  have h4 : ¬ aheadN (nvF s) v < 4 := by
    intro h
    have e : topF (nvF s) v = nvF s v := by unfold topF; rw [if_pos h]
    exact ho ⟨v, topF (nvF s) v⟩ (mem_setOf.2 ⟨v, hv, by rw [e]; exact hn, rfl⟩) rfl
  refine ⟨?_, fun p hp => ?_⟩
  · rw [setS_eq, topF_len (cut_nn hg), setOf_cut]
    have h1 := count_setOf hn
    have h2 := List.countP_le_length (p := fun q => ltL q ⟨v, nvF s v⟩) (l := setOf (nvF s))
    omega
  · obtain ⟨u, hu, h1, rfl⟩ := mem_setOf.1 hp
    have hau : aheadN (nvF s) u < 4 := by
      unfold topF at h1
      by_cases h : aheadN (nvF s) u < 4
      · exact h
      · rw [if_neg h] at h1; omega
    have e : topF (nvF s) u = nvF s u := by unfold topF; rw [if_pos hau]
    show nvF s v ≤ topF (nvF s) u
    rw [e]
    refine Int.not_lt.1 fun hlt => h4 ?_
    refine Nat.lt_of_le_of_lt (List.countP_mono_left fun w _ hw => ?_) hau
    unfold aheadB at hw ⊢
    simp only [Bool.or_eq_true, Bool.and_eq_true, decide_eq_true_eq, beq_iff_eq] at hw ⊢
    omega

/-- The least of some numbers, told by a loop. -/
def leastN (l : List Power) : Int := match l with
  | [] => 0
  | p :: l => l.foldl (fun t q => if q.N < t then q.N else t) p.N
theorem least_le : ∀ (l : List Power) (t : Int), (l.foldl (fun t q => if q.N < t then q.N else t) t) ≤ t ∧ ∀ p, p ∈ l → (l.foldl (fun t q => if q.N < t then q.N else t) t) ≤ p.N
  | [], t => ⟨Int.le_refl _, fun p h => by cases h⟩
  | q :: l, t => by
    rw [List.foldl_cons]
    obtain ⟨h1, h2⟩ := least_le l (if q.N < t then q.N else t)
    have h3 : (if q.N < t then q.N else t) ≤ t ∧ (if q.N < t then q.N else t) ≤ q.N := by split <;> omega
    refine ⟨by omega, fun p hp => ?_⟩
    rcases List.mem_cons.1 hp with rfl | hp
    · omega
    · exact h2 p hp
theorem least_mem : ∀ (l : List Power) (t : Int), (l.foldl (fun t q => if q.N < t then q.N else t) t) = t ∨ ∃ p, p ∈ l ∧ (l.foldl (fun t q => if q.N < t then q.N else t) t) = p.N
  | [], t => .inl rfl
  | q :: l, t => by
    rw [List.foldl_cons]
    rcases least_mem l (if q.N < t then q.N else t) with h | ⟨p, h1, h2⟩
    · rw [h]
      split
      · exact .inr ⟨q, List.mem_cons_self .., rfl⟩
      · exact .inl rfl
    · exact .inr ⟨p, List.mem_cons_of_mem _ h1, h2⟩
theorem leastN_mem {l : List Power} (h : l ≠ []) : ∃ p, p ∈ l ∧ leastN l = p.N := by
  cases l with
  | nil => exact absurd rfl h
  | cons q l =>
    rcases least_mem l q.N with h | ⟨p, h1, h2⟩
    · exact ⟨q, List.mem_cons_self .., h⟩
    · exact ⟨p, List.mem_cons_of_mem _ h1, h2⟩

theorem set_l1 {s : Stake} (hg : GoodS s) : sh_keep_StakeSet_l1 (setS s) 0 (setS s) (setS s).length 0 s = some (.inr (setS s, leastN (setS s), s)) := by
  have h6 : (setS s).length ≤ 6 := setOf_len _
  have hs : (setS s).Pairwise (fun a b => a.V < b.V) := setOf_sorted _
  have hm : ∀ p, p ∈ setS s → _ := fun p hp => mem_setS hg hp
  rw [sh_keep_StakeSet_l1]
  obtain ⟨l, hl⟩ : ∃ l, l = setS s := ⟨_, rfl⟩
  rw [← hl] at h6 hs hm ⊢
  have := iter_uptof (F := fun s : (List Power) × Int × (List Power) × Int × Int × Stake => (T_keep_StakeSet_l1 s.1 s.2.1 s.2.2.1 s.2.2.2.1 s.2.2.2.2.1 s.2.2.2.2.2).run) l.length
    (fun i t => (l, t, l, (l.length : Int), (i : Int), s)) (fun i t => t = leastN (l.take i)) (fun _ _ => .inr (l, leastN l, s)) (by
      intro t ht
      simp only [T_keep_StakeSet_l1]; rw [Tr.run_false (by simp), Tr.run_leaf, ht, List.take_length]) (by
      intro i t hi ht
      have hmi := hm _ (getD_mem (l := l) (k := i) hi default)
      obtain ⟨hV, hJ, hN, h1⟩ := hmi
      have hT := (hg.at hV).1.1
      have hn : (IntKind.i64.wrap ((i : Int) - 1)).toNat = i - 1 := by rw [i64_in (by omega) (by omega)]; omega
      have hprev : 0 < i → (l.getD (i - 1) default).V < (l.getD i default).V := fun h0 => by
        rw [List.pairwise_iff_getElem] at hs
        rw [getD_eq_at hi, getD_eq_at (by omega)]
        exact hs (i - 1) i (by omega) hi (by omega)
      have hlt : leastN (l.take (i + 1)) = if i = 0 ∨ (l.getD i default).N < leastN (l.take i) then (l.getD i default).N else leastN (l.take i) := by
        rw [List.take_succ_eq_append_getElem hi, ← getD_eq_at hi default]
        cases hk : l.take i with
        | nil =>
          have : i = 0 := by
            have := congrArg List.length hk
            rw [List.length_take, List.length_nil] at this
            omega
          rw [if_pos (.inl this)]; rfl
        | cons a m =>
          have : i ≠ 0 := by
            rintro rfl
            rw [List.take_zero] at hk; cases hk
          show (m ++ [l.getD i default]).foldl _ a.N = _
          rw [List.foldl_append]
          simp only [List.foldl_cons, List.foldl_nil, this, false_or]
          rfl
      refine .inl ⟨leastN (l.take (i + 1)), ?_, rfl, rfl⟩
      simp only [T_keep_StakeSet_l1]
      rw [Int.toNat_natCast, hn]
      obtain ⟨p, hp⟩ : ∃ p, p = l.getD i default := ⟨_, rfl⟩
      rw [← hp] at hV hJ hN h1 hT hprev hlt ⊢
      rw [tdiv100 hT, Tr.run_true (by simpa using hi), Tr.run_guard ⟨by omega, by rw [sl_len_powers]; omega⟩, Tr.run_guard hV, Tr.run_guard (by intro _; exact ⟨by omega, trivial⟩), Tr.run_guard (by
        intro h0 _
        rw [decide_eq_true_eq] at h0
        rw [i64_in (by omega) (by omega), sl_len_powers]
        exact ⟨by omega, trivial⟩), Tr.run_false (by
        simp only [Bool.or_eq_false_iff, Bool.and_eq_false_iff, decide_eq_false_iff_not, bne_eq_false_iff_eq]
        refine ⟨⟨⟨hJ, hN⟩, by omega⟩, ?_⟩
        by_cases h0 : 0 < i
        · have := hprev h0; exact .inr (by omega)
        · exact .inl (by omega)), ht, hlt]
      by_cases hc : i = 0 ∨ p.N < leastN (l.take i)
      · rw [if_pos hc, Tr.run_true (by simpa using hc), Tr.run_leaf, i64_nat (by omega)]
      · rw [if_neg hc, Tr.run_false (by rw [Bool.eq_false_iff]; intro k; apply hc; simpa using k), Tr.run_leaf, i64_nat (by omega)]) 0 0 (by omega) rfl
  exact this

theorem set_l2 {l : List Power} {t : Int} {v : Int} {a : A6 Validator} {x5 : Int} {x9 : Validator} (hl : l.length ≤ 6) : sh_keep_StakeSet_l2 l t v false a x5 l l.length 0 x9 = some (l, t, l.any (fun p => p.V == v), a, x5, x9) := by
  have := loop_fold (F := fun s : (List Power) × Int × Int × Bool × (A6 Validator) × Int × (List Power) × Int × Int × Validator => (T_keep_StakeSet_l2 s.1 s.2.1 s.2.2.1 s.2.2.2.1 s.2.2.2.2.1 s.2.2.2.2.2.1 s.2.2.2.2.2.2.1 s.2.2.2.2.2.2.2.1 s.2.2.2.2.2.2.2.2.1 s.2.2.2.2.2.2.2.2.2).run) l default
    (fun i b => (l, t, v, b, a, x5, l, (l.length : Int), (i : Int), x9)) (fun _ _ => True) (fun b p => b || p.V == v) (fun b => (l, t, b, a, x5, x9)) (by
      intro t _
      simp only [T_keep_StakeSet_l2]; rw [Tr.run_false (by simp), Tr.run_leaf]) (by
      intro i t hi _
      refine ⟨?_, trivial⟩
      simp only [T_keep_StakeSet_l2]
      rw [Int.toNat_natCast, Tr.run_true (by simpa using hi), Tr.run_guard ⟨by omega, by rw [sl_len_powers]; omega⟩, Tr.run_leaf, i64_nat (by omega)]) false trivial
  have e : ∀ (m : List Power) (b : Bool), m.foldl (fun b p => b || p.V == v) b = (b || m.any (fun p => p.V == v)) := by
    intro m
    induction m with
    | nil => intro b; simp
    | cons q m ih => intro b; rw [List.foldl_cons, ih, List.any_cons, Bool.or_assoc]
  rw [e, Bool.false_or] at this
  rw [sh_keep_StakeSet_l2]
  exact this

theorem set_l3 {s : Stake} (hg : GoodS s) : sh_keep_StakeSet_l3 (setS s) (leastN (setS s)) (vsA s) 0 = some (.inr (setS s)) := by
  have h6 : (setS s).length ≤ 6 := setOf_len _
  rw [sh_keep_StakeSet_l3]
  have := iter_uptof (F := fun s : (List Power) × Int × (A6 Validator) × Int => (T_keep_StakeSet_l3 s.1 s.2.1 s.2.2.1 s.2.2.2).run) 6
    (fun i (_ : Unit) => (setS s, leastN (setS s), vsA s, (i : Int))) (fun _ _ => True) (fun _ _ => .inr (setS s)) (by
      intro t _
      simp only [T_keep_StakeSet_l3]; rw [Tr.run_false (by rfl), Tr.run_leaf]) (by
      intro i t hi _
      refine .inl ⟨(), ?_, trivial, rfl⟩
      have hT := (hg.at (v := i) (by omega)).1.1
      simp only [T_keep_StakeSet_l3]
      rw [vsA_T, vsA_S, vsA_L, vsA_J, vsA_D, Tr.run_true (by simp; omega), Tr.run_guard (by omega), Tr.run_bind (set_l2 h6)]
      simp only []
      rw [tdiv100 hT, Tr.run_guard (by intro _; exact ⟨by omega, trivial⟩), Tr.run_guard (by intro _ _; exact ⟨by omega, trivial⟩), Tr.run_false (by
        rw [Bool.eq_false_iff]
        intro k
        simp only [Bool.and_eq_true, Bool.or_eq_true, Bool.not_eq_true', decide_eq_true_eq, List.any_eq_false, beq_iff_eq] at k
        obtain ⟨⟨⟨k1, k2⟩, k3⟩, k4⟩ := k
        have e : nvF s i = s.Validators.Tokens.get i / 100 := by unfold nvF; rw [k2]; rfl
        obtain ⟨f1, f2⟩ := left_out hg hi (by rw [e]; exact k3) (fun p hp => k1 p hp)
        rcases k4 with k4 | k4
        · omega
        · have hne : setS s ≠ [] := by intro h; rw [h] at f1; cases f1
          obtain ⟨p, p1, p2⟩ := leastN_mem hne
          have := f2 p p1
          rw [e] at this
          omega), Tr.run_leaf, i64_nat (by omega)]) 0 () (by omega) trivial
  exact this

theorem pl_StakeSet {s : Stake} : sh_keep_StakeSet s = some true := by
  rw [sh_keep_StakeSet, T_keep_StakeSet, Tr.run_bind (pl_stakeGood s)]
  simp only [pl_keepstakes, Option.isSome_some, Option.getD_some]
  rw [Tr.run_guard (by simp)]
  by_cases hg : GoodS s
  · rw [Tr.run_false (by simp [hg]), Tr.run_bind (pl_Set hg), Tr.run_inr (set_l1 hg)]
    simp only []
    refine (Tr.run_inr (set_l3 hg)).trans ?_
    have h4 : (setS s).length ≤ 4 := by rw [setS_eq, topF_len (cut_nn hg)]; omega
    rw [Tr.run_leaf]
    congr 1
    rw [decide_eq_true_eq]; omega
  · rw [Tr.run_true (by simp [hg]), Tr.run_bind rfl, Tr.run_leaf]

/-! What is paid. -/

theorem paid_l1 {time : Int} {l : List Int} {n : Int} {d : Bool} {W : List Wait} {x6 x7 : Int} {s t : Stake} {w : Wait} (hl : l.length ≤ 60) :
    sh_keep_StakePaid_l1 time l n d false W x6 x7 l l.length 0 s t w = some (time, l, n, d, l.any (fun k => k == w.Number), W, x6, x7, s, t, w) := by
  have := loop_fold (F := fun s : Int × (List Int) × Int × Bool × Bool × (List Wait) × Int × Int × (List Int) × Int × Int × Stake × Stake × Wait => (T_keep_StakePaid_l1 s.1 s.2.1 s.2.2.1 s.2.2.2.1 s.2.2.2.2.1 s.2.2.2.2.2.1 s.2.2.2.2.2.2.1 s.2.2.2.2.2.2.2.1 s.2.2.2.2.2.2.2.2.1 s.2.2.2.2.2.2.2.2.2.1 s.2.2.2.2.2.2.2.2.2.2.1 s.2.2.2.2.2.2.2.2.2.2.2.1 s.2.2.2.2.2.2.2.2.2.2.2.2.1 s.2.2.2.2.2.2.2.2.2.2.2.2.2).run) l 0
    (fun i b => (time, l, n, d, b, W, x6, x7, l, (l.length : Int), (i : Int), s, t, w)) (fun _ _ => True) (fun b k => b || k == w.Number) (fun b => (time, l, n, d, b, W, x6, x7, s, t, w)) (by
      intro b _
      simp only [T_keep_StakePaid_l1]; rw [Tr.run_false (by simp), Tr.run_leaf]) (by
      intro i b hi _
      refine ⟨?_, trivial⟩
      simp only [T_keep_StakePaid_l1]
      rw [Int.toNat_natCast, Tr.run_true (by simpa using hi), Tr.run_guard ⟨by omega, by rw [sl_len_ints]; omega⟩, Tr.run_leaf, i64_nat (by omega)]) false trivial
  have e : ∀ (m : List Int) (b : Bool), m.foldl (fun b k => b || k == w.Number) b = (b || m.any (fun k => k == w.Number)) := by
    intro m
    induction m with
    | nil => intro b; simp
    | cons q m ih => intro b; rw [List.foldl_cons, ih, List.any_cons, Bool.or_assoc]
  rw [e, Bool.false_or] at this
  rw [sh_keep_StakePaid_l1]
  exact this

theorem pl_StakePaid {s : Stake} {time : Int} : sh_keep_StakePaid s time = some true := by
  rw [sh_keep_StakePaid, T_keep_StakePaid, Tr.run_bind pl_Pay]
  simp only [pl_keepstakes, Option.isSome_some, Option.getD_some]
  rw [Tr.run_guard (by simp)]
  by_cases hg : GoodS s
  · have h60 := hg.2.1.2.2
    have hga := good_pay hg time
    have hb := paidB_ok hg time
    have hsum := sumW_filter (dueW time) s.Waits
    have hW := hg.2.2.2.2.2.1
    have ow : okN s.Bank.Waiting := hg.1.2.2.2.2.2.1
    unfold okN at ow
    rw [payS_eq hg] at hga ⊢
    obtain ⟨l, hl⟩ : ∃ l, l = (s.Waits.filter (dueW time)).map (·.Number) := ⟨_, rfl⟩
    obtain ⟨a, ha⟩ : ∃ a : Stake, a = { s with Bank := paidB s time, Waits := s.Waits.filter (fun w => !dueW time w) } := ⟨_, rfl⟩
    rw [← hl, ← ha]
    rw [← ha] at hga
    have hlen : l.length + a.Waits.length = s.Waits.length := by
      rw [hl, ha, List.length_map]
      have := List.length_eq_countP_add_countP (dueW time) (l := s.Waits)
      rw [List.countP_eq_length_filter, List.countP_eq_length_filter] at this
      rw [this]
      simp
    have hany : ∀ w, w ∈ s.Waits → l.any (fun k => k == w.Number) = dueW time w := by
      intro w hw
      rw [Bool.eq_iff_iff, List.any_eq_true]
      constructor
      · rintro ⟨k, h1, h2⟩
        rw [hl, List.mem_map] at h1
        obtain ⟨u, hu, rfl⟩ := h1
        rw [List.mem_filter] at hu
        have := goodWs_inj hg.2.2.2.1 hu.1 hw (by simpa using h2)
        rw [← this]; exact hu.2
      · intro h
        refine ⟨w.Number, ?_, by simp⟩
        rw [hl, List.mem_map]
        exact ⟨w, List.mem_filter.2 ⟨hw, h⟩, rfl⟩
    have key : sh_keep_StakePaid_l2 time l 0 s.Waits s.Waits.length 0 s a = some (.inr (time, l, sumW (s.Waits.filter (dueW time)), s, a)) := by
      have := iter_uptof (F := fun s : Int × (List Int) × Int × (List Wait) × Int × Int × Stake × Stake => (T_keep_StakePaid_l2 s.1 s.2.1 s.2.2.1 s.2.2.2.1 s.2.2.2.2.1 s.2.2.2.2.2.1 s.2.2.2.2.2.2.1 s.2.2.2.2.2.2.2).run) s.Waits.length
        (fun i t => (time, l, t, s.Waits, (s.Waits.length : Int), (i : Int), s, a)) (fun i t => 0 ≤ t ∧ t + sumW (s.Waits.drop i) ≤ 400000) (fun i t => .inr (time, l, t + sumW ((s.Waits.drop i).filter (dueW time)), s, a)) (by
          intro t _
          simp only [T_keep_StakePaid_l2]; rw [Tr.run_false (by simp), Tr.run_leaf, List.drop_length, List.filter_nil]
          show _ = some (Sum.inr (Sum.inr (time, l, t + 0, s, a)))
          rw [Int.add_zero]) (by
          rintro i t hi ⟨ht0, ht1⟩
          have hs := drop_step (l := s.Waits) (k := i) hi default
          have hmem := getD_mem (l := s.Waits) (k := i) hi default
          have hw := hany _ hmem
          obtain ⟨q, hq⟩ := goodWs_drop i hg.2.2.2.1
          simp only [T_keep_StakePaid_l2]
          rw [Int.toNat_natCast]
          rw [hs] at hq ht1 ⊢
          obtain ⟨w, hwd⟩ : ∃ w, w = s.Waits.getD i default := ⟨_, rfl⟩
          rw [← hwd] at hq ht1 hw ⊢
          have hn := goodWs_sum hq.2
          have hA := hq.1.2.2.2.2.2.2.1
          unfold inA at hA
          simp only [sumW] at ht1
          have hd : ((decide (w.Due ≤ time)) && ((w.h0 == 0) && ((w.h1 == 0) && true))) = dueW time w := by unfold dueW; rw [Bool.and_true, Bool.and_assoc]
          rw [Tr.run_true (by simpa using hi), Tr.run_guard ⟨by omega, by rw [sl_len_waits]; omega⟩, hd, Tr.run_bind (paid_l1 (by omega))]
          simp only []
          rw [hw, Tr.run_false (by simp), List.filter_cons]
          by_cases h : dueW time w = true
          · refine .inl ⟨t + w.Amount, ?_, ⟨by omega, by omega⟩, ?_⟩
            · rw [Tr.run_true h, Tr.run_leaf, i64_nat (by omega), i64_in (by omega) (by omega)]
            · rw [if_pos h]; simp only [sumW]; rw [Int.add_assoc]
          · refine .inl ⟨t, ?_, ⟨by omega, by omega⟩, ?_⟩
            · rw [Tr.run_false (by simpa using h), Tr.run_leaf, i64_nat (by omega)]
            · rw [if_neg h]) 0 0 (by omega) ⟨by omega, by rw [List.drop_zero, hW]; omega⟩
      rw [List.drop_zero, Int.zero_add] at this
      rw [sh_keep_StakePaid_l2]
      exact this
    have hnone : (payS a time).2.1 = [] ∧ (payS a time).2.2 = 0 := by
      rw [payS_eq hga]
      refine ⟨?_, rfl⟩
      have : a.Waits.filter (dueW time) = [] := by
        rw [ha, List.filter_eq_nil_iff]
        intro w hw
        have := (List.mem_filter.1 hw).2
        simpa using this
      simp only [this, List.map_nil]
    have hbw : a.Bank = paidB s time := by rw [ha]
    have hbound := goodWs_sum hg.2.2.2.1
    have hf1 := goodWs_sum (goodWs_filter (dueW time) hg.2.2.2.1)
    have hf2 := goodWs_sum (goodWs_filter (fun w => !dueW time w) hg.2.2.2.1)
    rw [Tr.run_false (by simp), Tr.run_inr key]
    simp only []
    rw [Tr.run_bind pl_Pay, Tr.run_leaf, hnone.1, hnone.2, hbw, hb.2.1, hb.2.2.1, i64_in (x := ((a.Waits.length : Nat) : Int) + _) (by omega) (by omega), i64_in (x := s.Bank.Waiting - _) (by omega) (by omega)]
    congr 1
    simp only [Bool.and_eq_true, beq_iff_eq]
    refine ⟨⟨⟨⟨trivial, rfl⟩, ?_⟩, ?_⟩, trivial⟩ <;> omega
  · have e : payS s time = (s, [], 2) := by unfold payS; rw [if_pos hg]
    rw [e, Tr.run_true (by simp), Tr.run_guard (by simp), Tr.run_leaf]
    rfl

end Go.Proofs.Ytbpehnghffljiaa.Ab
