/-
  Stakes stay good, with no program in sight.
-/
import Derived.Test.YtbpehnghffljiaaPlStake5
namespace Go.Proofs.Ytbpehnghffljiaa.Ab
open Go Go.RowKit
set_option linter.unusedVariables false
set_option linter.unusedSimpArgs false

/-! Small arrays. -/

theorem A6_get_set {α : Type} (a : A6 α) {i j : Int} (y : α) (hi : 0 ≤ i ∧ i < 6) (hj : 0 ≤ j ∧ j < 6) : (a.set i y).get j = if j = i then y else a.get j := by
  obtain rfl | rfl | rfl | rfl | rfl | rfl : j = 0 ∨ j = 1 ∨ j = 2 ∨ j = 3 ∨ j = 4 ∨ j = 5 := by omega
  all_goals
    obtain rfl | rfl | rfl | rfl | rfl | rfl : i = 0 ∨ i = 1 ∨ i = 2 ∨ i = 3 ∨ i = 4 ∨ i = 5 := by omega
    all_goals rfl
theorem A6_get_same {α : Type} (a : A6 α) {i : Int} (y : α) (hi : 0 ≤ i ∧ i < 6) : (a.set i y).get i = y := by rw [A6_get_set a y hi hi, if_pos rfl]
theorem A6_get_other {α : Type} (a : A6 α) {i j : Int} (y : α) (hi : 0 ≤ i ∧ i < 6) (hj : 0 ≤ j ∧ j < 6) (h : j ≠ i) : (a.set i y).get j = a.get j := by rw [A6_get_set a y hi hj, if_neg h]
theorem sum6_set (a : A6 Int) {i : Int} (y : Int) (hi : 0 ≤ i ∧ i < 6) : sum6 (a.set i y) = sum6 a - a.get i + y := by
  obtain rfl | rfl | rfl | rfl | rfl | rfl : i = 0 ∨ i = 1 ∨ i = 2 ∨ i = 3 ∨ i = 4 ∨ i = 5 := by omega
  · show y + a.x1 + a.x2 + a.x3 + a.x4 + a.x5 = a.x0 + a.x1 + a.x2 + a.x3 + a.x4 + a.x5 - a.x0 + y; omega
  · show a.x0 + y + a.x2 + a.x3 + a.x4 + a.x5 = a.x0 + a.x1 + a.x2 + a.x3 + a.x4 + a.x5 - a.x1 + y; omega
  · show a.x0 + a.x1 + y + a.x3 + a.x4 + a.x5 = a.x0 + a.x1 + a.x2 + a.x3 + a.x4 + a.x5 - a.x2 + y; omega
  · show a.x0 + a.x1 + a.x2 + y + a.x4 + a.x5 = a.x0 + a.x1 + a.x2 + a.x3 + a.x4 + a.x5 - a.x3 + y; omega
  · show a.x0 + a.x1 + a.x2 + a.x3 + y + a.x5 = a.x0 + a.x1 + a.x2 + a.x3 + a.x4 + a.x5 - a.x4 + y; omega
  · show a.x0 + a.x1 + a.x2 + a.x3 + a.x4 + y = a.x0 + a.x1 + a.x2 + a.x3 + a.x4 + a.x5 - a.x5 + y; omega

theorem A46_set_rows (a : A4 (A6 Int)) (d v y : Int) : A46.set a d v y = ⟨if d = 0 then a.x0.set v y else a.x0, if d = 1 then a.x1.set v y else a.x1, if d = 2 then a.x2.set v y else a.x2, if d = 3 then a.x3.set v y else a.x3⟩ := by
  unfold A46.set A6.set
  congr 1
  · by_cases h : d = 0 <;> simp [h]
  · by_cases h : d = 1 <;> simp [h]
  · by_cases h : d = 2 <;> simp [h]
  · by_cases h : d = 3 <;> simp [h]
theorem A46_get_set (a : A4 (A6 Int)) {d v d' v' : Int} (y : Int) (hd : 0 ≤ d ∧ d < 4) (hv : 0 ≤ v ∧ v < 6) (hd' : 0 ≤ d' ∧ d' < 4) (hv' : 0 ≤ v' ∧ v' < 6) : A46.get (A46.set a d v y) d' v' = if d' = d ∧ v' = v then y else A46.get a d' v' := by
  have key : ∀ (p : Prop) [Decidable p] (r : A6 Int), (if p then r.set v y else r).get v' = if p ∧ v' = v then y else r.get v' := by
    intro p _ r
    by_cases h : p
    · rw [if_pos h, A6_get_set r y hv hv']; simp [h]
    · rw [if_neg h, if_neg (fun x => h x.1)]
  rw [A46_set_rows]
  obtain rfl | rfl | rfl | rfl : d' = 0 ∨ d' = 1 ∨ d' = 2 ∨ d' = 3 := by omega
  · refine (key (d = 0) a.x0).trans ?_
    simp only [eq_comm (a := d)]; rfl
  · refine (key (d = 1) a.x1).trans ?_
    simp only [eq_comm (a := d)]; rfl
  · refine (key (d = 2) a.x2).trans ?_
    simp only [eq_comm (a := d)]; rfl
  · refine (key (d = 3) a.x3).trans ?_
    simp only [eq_comm (a := d)]; rfl

theorem goodV_congr {s t : Stake} {v : Int} (hT : t.Validators.Tokens.get v = s.Validators.Tokens.get v) (hS : t.Validators.Shares.get v = s.Validators.Shares.get v) (hL : t.Validators.Lost.get v = s.Validators.Lost.get v)
    (hJ : t.Validators.Jailed.get v = s.Validators.Jailed.get v) (hD : t.Validators.Dead.get v = s.Validators.Dead.get v) (hs : ∀ d : Int, 0 ≤ d → d < 4 → A46.get t.Shares d v = A46.get s.Shares d v) (h : GoodV s v) : GoodV t v := by
  obtain ⟨h1, h2, h3⟩ := h
  unfold GoodV shSum shr
  rw [hT, hS, hL, hJ, hD, hs 0 (by omega) (by omega), hs 1 (by omega) (by omega), hs 2 (by omega) (by omega), hs 3 (by omega) (by omega)]
  exact ⟨h1, fun d hd => by rw [hs d (by omega) (by omega)]; exact h2 d hd, h3⟩

/-! What waits. -/

theorem goodWs_mono {n n' : Int} : ∀ {l : List Wait} {p p' : Int}, GoodWs n p l → n ≤ n' → p' ≤ p → GoodWs n' p' l
  | [], _, _, _, _, _ => trivial
  | w :: l, p, p', h, hn, hp => by
    obtain ⟨h1, h2, h3⟩ := h.1
    exact ⟨⟨by omega, by omega, h3⟩, goodWs_mono h.2 hn (Int.le_refl _)⟩
theorem goodWs_snoc {n : Int} {w : Wait} (hw : w.Number = n) (h : 0 ≤ w.D ∧ w.D < 4 ∧ 0 ≤ w.V ∧ w.V < 6 ∧ inA w.Amount ∧ 0 ≤ w.Height ∧ 0 ≤ w.Due) : ∀ {l : List Wait} {p : Int}, p < n → GoodWs n p l → GoodWs (n + 1) p (l ++ [w])
  | [], p, hp, _ => ⟨⟨by omega, by omega, h⟩, trivial⟩
  | a :: l, p, hp, hl => by
    obtain ⟨h1, h2, h3⟩ := hl.1
    exact ⟨⟨h1, by omega, h3⟩, goodWs_snoc hw h (by omega) hl.2⟩
theorem goodWs_map {n : Int} {f : Wait → Wait} (hf : ∀ w, inA w.Amount → (f w).Number = w.Number ∧ (f w).D = w.D ∧ (f w).V = w.V ∧ inA (f w).Amount ∧ (f w).Height = w.Height ∧ (f w).Due = w.Due) : ∀ {l : List Wait} {p : Int}, GoodWs n p l → GoodWs n p (l.map f)
  | [], _, _ => trivial
  | w :: l, p, h => by
    obtain ⟨h1, h2, h3, h4, h5, h6, h7, h8, h9⟩ := h.1
    obtain ⟨e1, e2, e3, e4, e5, e6⟩ := hf w h7
    refine ⟨⟨by rw [e1]; exact h1, by rw [e1]; exact h2, by rw [e2]; exact h3, by rw [e2]; exact h4, by rw [e3]; exact h5, by rw [e3]; exact h6, e4, by rw [e5]; exact h8, by rw [e6]; exact h9⟩, ?_⟩
    rw [e1]
    exact goodWs_map hf h.2
theorem goodWs_filter {n : Int} (q : Wait → Bool) : ∀ {l : List Wait} {p : Int}, GoodWs n p l → GoodWs n p (l.filter q)
  | [], _, _ => trivial
  | w :: l, p, h => by
    rw [List.filter_cons]
    split
    · exact ⟨h.1, goodWs_filter q h.2⟩
    · exact goodWs_mono (goodWs_filter q h.2) (Int.le_refl _) (Int.le_of_lt h.1.1)
theorem sumW_app (l m : List Wait) : sumW (l ++ m) = sumW l + sumW m := by
  induction l with
  | nil => simp [sumW]
  | cons a l ih => simp only [List.cons_append, sumW, ih]; omega
theorem sumW_filter (q : Wait → Bool) (l : List Wait) : sumW (l.filter q) + sumW (l.filter (fun w => !q w)) = sumW l := by
  induction l with
  | nil => rfl
  | cons a l ih =>
    rw [List.filter_cons, List.filter_cons]
    cases q a
    · simp only [Bool.not_false, if_true, sumW]; rw [if_neg (by simp)]; omega
    · simp only [Bool.not_true, if_true, sumW]; rw [if_neg (by simp)]; omega
theorem goodWs_mem {n : Int} : ∀ {l : List Wait} {p : Int} {w : Wait}, GoodWs n p l → w ∈ l → p < w.Number ∧ w.Number < n ∧ 0 ≤ w.D ∧ w.D < 4 ∧ 0 ≤ w.V ∧ w.V < 6 ∧ inA w.Amount ∧ 0 ≤ w.Height ∧ 0 ≤ w.Due
  | a :: l, p, w, h, hw => by
    rcases List.mem_cons.1 hw with rfl | hw
    · exact h.1
    · have := goodWs_mem h.2 hw
      exact ⟨Int.lt_trans h.1.1 this.1, this.2⟩
theorem goodWs_inj {n : Int} : ∀ {l : List Wait} {p : Int} {w u : Wait}, GoodWs n p l → w ∈ l → u ∈ l → w.Number = u.Number → w = u
  | [], _, _, _, _, hw, _, _ => by cases hw
  | a :: l, p, w, u, h, hw, hu, he => by
    rcases List.mem_cons.1 hw with h1 | h1
    · rcases List.mem_cons.1 hu with h2 | h2
      · rw [h1, h2]
      · have := (goodWs_mem h.2 h2).1; rw [h1] at he; omega
    · rcases List.mem_cons.1 hu with h2 | h2
      · have := (goodWs_mem h.2 h1).1; rw [h2] at he; omega
      · exact goodWs_inj h.2 h1 h2 he

/-! Delegate. -/

theorem bondB_ok {b : Bank} {d n : Int} (h : (bondB b d n).2 = 0) : GoodB (bondB b d n).1 ∧ 0 ≤ n ∧ n ≤ 400000 ∧ (bondB b d n).1.Bonded = b.Bonded + n ∧ (bondB b d n).1.Waiting = b.Waiting ∧ (bondB b d n).1.Burnt = b.Burnt := by
  have k := kept_bond (b := b) (d := d) (n := n)
  rcases k with ⟨k, _⟩ | ⟨_, g1, g2, _⟩
  · exact absurd h k
  have hd : ¬ (d < 0 ∨ 3 < d) := by
    intro hd
    unfold bondB at h
    rw [if_pos hd] at h; cases h
  have e : bondB b d n = moveB b d 4 n := by unfold bondB; rw [if_neg hd]
  rw [e] at h g2 ⊢
  obtain ⟨m1, m2, m3, m4, m5⟩ := moveB_ok h
  have m6 := get_in m1 d
  unfold okN at m6
  refine ⟨g2, m2, by omega, ?_⟩
  rw [m5]
  obtain rfl | rfl | rfl | rfl : d = 0 ∨ d = 1 ∨ d = 2 ∨ d = 3 := by omega
  all_goals simp [movedB, bkA, plA, A7.get, A7.set]

theorem good_addS {s : Stake} (hg : GoodS s) {b : Bank} {d v n k : Int} (hd : 0 ≤ d ∧ d < 4) (hv : 0 ≤ v ∧ v < 6) (hb : GoodB b) (hb1 : b.Bonded = s.Bank.Bonded + n) (hb2 : b.Waiting = s.Bank.Waiting) (hb3 : b.Burnt = s.Bank.Burnt)
    (hn : 0 ≤ n ∧ n ≤ 400000) (hk : 1 ≤ k) (hS : s.Validators.Shares.get v + k ≤ 1125899906842624) : GoodS (addS s b d v n k) := by
  obtain ⟨g1, g2, g3, g4, g5, g6, g7⟩ := hg
  have hg : GoodS s := ⟨g1, g2, g3, g4, g5, g6, g7⟩
  have htok := tokens_le hg hv
  have o2 : okN s.Bank.Bonded := g1.2.2.2.2.1
  unfold okN at o2
  refine ⟨hb, g2, fun u hu => ?_, g4, ?_, ?_, ?_⟩
  · have hu' : 0 ≤ (u : Int) ∧ (u : Int) < 6 := by omega
    by_cases he : (u : Int) = v
    · obtain ⟨⟨q1, q2, q3, q4, q5⟩, q6, q7⟩ := hg.at hv
      have hle := shares_le hg hd hv
      have r0 := hg.shr (d := 0) (by omega) hv; have r1 := hg.shr (d := 1) (by omega) hv; have r2 := hg.shr (d := 2) (by omega) hv; have r3 := hg.shr (d := 3) (by omega) hv
      unfold shSum shr at q7
      rw [he]
      have sh : ∀ d' : Int, 0 ≤ d' → d' < 4 → A46.get (addS s b d v n k).Shares d' v = if d' = d then A46.get s.Shares d v + k else A46.get s.Shares d' v := fun d' h0 h1 => by
        show A46.get (A46.set s.Shares d v (A46.get s.Shares d v + k)) d' v = _
        rw [A46_get_set _ _ hd hv ⟨h0, h1⟩ hv]
        by_cases h : d' = d
        · rw [if_pos ⟨h, rfl⟩, if_pos h]
        · rw [if_neg (fun x => h x.1), if_neg h]
      have eT : (addS s b d v n k).Validators.Tokens.get v = s.Validators.Tokens.get v + n := A6_get_same _ _ hv
      have eS : (addS s b d v n k).Validators.Shares.get v = s.Validators.Shares.get v + k := A6_get_same _ _ hv
      unfold inA at q1 q2
      refine ⟨⟨?_, ?_, q3, ?_, q5⟩, fun d' hd' => ?_, ?_⟩
      · rw [eT]; unfold inA; omega
      · rw [eS]; unfold inA; omega
      · rw [eT, eS]; omega
      · unfold shr
        rw [sh d' (by omega) (by omega)]
        split
        · have := hg.shr hd hv; unfold inA; omega
        · exact q6 d' hd'
      · unfold shSum shr
        rw [eS, sh 0 (by omega) (by omega), sh 1 (by omega) (by omega), sh 2 (by omega) (by omega), sh 3 (by omega) (by omega)]
        obtain rfl | rfl | rfl | rfl : d = 0 ∨ d = 1 ∨ d = 2 ∨ d = 3 := by omega
        all_goals
          simp
          omega
    · refine goodV_congr (A6_get_other _ _ hv hu' he) (A6_get_other _ _ hv hu' he) rfl rfl rfl (fun d' h0 h1 => ?_) (g3 u hu)
      show A46.get (A46.set s.Shares d v (A46.get s.Shares d v + k)) d' u = _
      rw [A46_get_set _ _ hd hv ⟨h0, h1⟩ hu', if_neg (fun x => he x.2)]
  · show sum6 (s.Validators.Tokens.set v (s.Validators.Tokens.get v + n)) = b.Bonded
    rw [sum6_set _ _ hv, g5, hb1]; omega
  · show sumW s.Waits = b.Waiting
    rw [hb2]; exact g6
  · show sum6 s.Validators.Lost = b.Burnt
    rw [hb3]; exact g7

theorem sharesFor_nn {s : Stake} {v n : Int} (hn : 0 ≤ n) : 0 ≤ (sharesFor s v n).1 := by
  unfold sharesFor
  split
  · exact hn
  · exact (mulDivP_nn _ _ _).1

/-- All that a delegation that goes well gives. -/
theorem delegate_ok {s : Stake} {d v n : Int} (h : (delegateS s d v n).2 = 0) : GoodS s ∧ (0 ≤ d ∧ d < 4) ∧ (0 ≤ v ∧ v < 6) ∧ s.Validators.Dead.get v ≠ true ∧ (1 ≤ n ∧ n ≤ 400000) ∧ ¬ (s.Validators.Shares.get v ≠ 0 ∧ s.Validators.Tokens.get v = 0) ∧ (sharesFor s v n).2 = 0 ∧
    s.Validators.Shares.get v + (sharesFor s v n).1 ≤ 1125899906842624 ∧ 1 ≤ (sharesFor s v n).1 ∧ (bondB s.Bank d n).2 = 0 ∧ delegateS s d v n = (addS s (bondB s.Bank d n).1 d v n (sharesFor s v n).1, 0) := by
  unfold delegateS at h ⊢
  by_cases h0 : knownS s d v ≠ 0
  · rw [if_pos h0] at h; exact absurd h h0
  · rw [if_neg h0] at h ⊢
    obtain ⟨hg, hd, hv⟩ := known_ok (Decidable.not_not.1 h0)
    by_cases h1 : s.Validators.Dead.get v = true
    · rw [if_pos h1] at h; cases h
    · rw [if_neg h1] at h ⊢
      by_cases h2 : n < 1 ∨ 1125899906842624 < n
      · rw [if_pos h2] at h; cases h
      · rw [if_neg h2] at h ⊢
        by_cases h3 : s.Validators.Shares.get v ≠ 0 ∧ s.Validators.Tokens.get v = 0
        · rw [if_pos h3] at h; cases h
        · rw [if_neg h3] at h ⊢
          by_cases h4 : (sharesFor s v n).2 ≠ 0 ∨ 1125899906842624 < s.Validators.Shares.get v + (sharesFor s v n).1
          · rw [if_pos h4] at h; cases h
          · rw [if_neg h4] at h ⊢
            by_cases h5 : (sharesFor s v n).1 < 1
            · rw [if_pos h5] at h; cases h
            · rw [if_neg h5] at h ⊢
              by_cases h6 : (bondB s.Bank d n).2 ≠ 0
              · rw [if_pos h6] at h; exact absurd h h6
              · rw [if_neg h6]
                have hb := bondB_ok (Decidable.not_not.1 h6)
                exact ⟨hg, hd, hv, h1, ⟨by omega, hb.2.2.1⟩, h3, by omega, by omega, by omega, Decidable.not_not.1 h6, rfl⟩

theorem delegate_bad {s : Stake} {d v n : Int} (h : (delegateS s d v n).2 ≠ 0) : (delegateS s d v n).1 = s := by
  unfold delegateS at h ⊢
  repeat' split
  all_goals first | rfl | skip
  rename_i h0 h1 h2 h3 h4 h5 h6
  rw [if_neg h0, if_neg h1, if_neg h2, if_neg h3, if_neg h4, if_neg h5, if_neg h6] at h
  exact absurd rfl h

theorem good_delegate {s : Stake} {d v n : Int} (h : (delegateS s d v n).2 = 0) : GoodS (delegateS s d v n).1 := by
  obtain ⟨hg, hd, hv, _, hn, _, _, h1, h2, h3, h4⟩ := delegate_ok h
  obtain ⟨b1, b2, b3, b4, b5, b6⟩ := bondB_ok h3
  rw [h4]
  exact good_addS hg hd hv b1 b4 b5 b6 (by omega) h2 h1

/-! Undelegate. -/

theorem unbondB_ok {b : Bank} {n : Int} (h : (moveB b 4 5 n).2 = 0) : GoodB (moveB b 4 5 n).1 ∧ 0 ≤ n ∧ n ≤ b.Bonded ∧ (moveB b 4 5 n).1.Bonded = b.Bonded - n ∧ (moveB b 4 5 n).1.Waiting = b.Waiting + n ∧ (moveB b 4 5 n).1.Burnt = b.Burnt := by
  obtain ⟨m1, m2, m3, m4, m5⟩ := moveB_ok h
  refine ⟨by rw [m5]; exact (movedB_good (.inr (.inl ⟨rfl, rfl⟩)) m1 m2 m4).1, m2, m4, ?_⟩
  rw [m5]
  simp [movedB, bkA, plA, A7.get, A7.set]

theorem undelegate_ok {s : Stake} {d v k : Int} {w : Wait} (h : (undelegateS s d v k w).2 = 0) : GoodS s ∧ (0 ≤ d ∧ d < 4) ∧ (0 ≤ v ∧ v < 6) ∧ (1 ≤ k ∧ k ≤ A46.get s.Shares d v) ∧ (0 ≤ w.Height ∧ 0 ≤ w.Due) ∧ s.Waits.length < 60 ∧ s.Next < 1125899906842624 ∧ 1 ≤ worth s v k ∧
    (moveB s.Bank 4 5 (worth s v k)).2 = 0 ∧ undelegateS s d v k w = (subS s (moveB s.Bank 4 5 (worth s v k)).1 d v (worth s v k) k w, 0) := by
  unfold undelegateS at h ⊢
  by_cases h0 : knownS s d v ≠ 0
  · rw [if_pos h0] at h; exact absurd h h0
  · rw [if_neg h0] at h ⊢
    obtain ⟨hg, hd, hv⟩ := known_ok (Decidable.not_not.1 h0)
    by_cases h1 : k < 1 ∨ 1125899906842624 < k ∨ w.Height < 0 ∨ w.Due < 0
    · rw [if_pos h1] at h; cases h
    · rw [if_neg h1] at h ⊢
      by_cases h2 : A46.get s.Shares d v < k
      · rw [if_pos h2] at h; cases h
      · rw [if_neg h2] at h ⊢
        by_cases h3 : 60 ≤ s.Waits.length ∨ 1125899906842624 ≤ s.Next
        · rw [if_pos h3] at h; cases h
        · rw [if_neg h3] at h ⊢
          by_cases h4 : worth s v k < 1
          · rw [if_pos h4] at h; cases h
          · rw [if_neg h4] at h ⊢
            by_cases h6 : (moveB s.Bank 4 5 (worth s v k)).2 ≠ 0
            · rw [if_pos h6] at h; exact absurd h h6
            · rw [if_neg h6]
              exact ⟨hg, hd, hv, by omega, by omega, by omega, by omega, by omega, Decidable.not_not.1 h6, rfl⟩

theorem undelegate_bad {s : Stake} {d v k : Int} {w : Wait} (h : (undelegateS s d v k w).2 ≠ 0) : (undelegateS s d v k w).1 = s := by
  unfold undelegateS at h ⊢
  repeat' split
  all_goals first | rfl | skip
  rename_i h0 h1 h2 h3 h4 h5
  rw [if_neg h0, if_neg h1, if_neg h2, if_neg h3, if_neg h4, if_neg h5] at h
  exact absurd rfl h

theorem worth_le {s : Stake} (hg : GoodS s) {v k : Int} (hv : 0 ≤ v ∧ v < 6) (h0 : 0 ≤ k) (h1 : k ≤ s.Validators.Shares.get v) : worth s v k ≤ s.Validators.Tokens.get v := by
  obtain ⟨⟨q1, q2, q3, q4, q5⟩, q6, q7⟩ := hg.at hv
  unfold worth mulDivP
  by_cases h : k < 0 ∨ s.Validators.Tokens.get v < 0 ∨ s.Validators.Shares.get v < 1
  · rw [if_pos h]; exact q1.1
  · rw [if_neg h]
    have h2 : k * s.Validators.Tokens.get v / s.Validators.Shares.get v ≤ s.Validators.Tokens.get v := by
      have h3 : k * s.Validators.Tokens.get v ≤ s.Validators.Shares.get v * s.Validators.Tokens.get v := Int.mul_le_mul_of_nonneg_right h1 q1.1
      have h4 := Int.ediv_le_ediv (c := s.Validators.Shares.get v) (by omega) h3
      rwa [Int.mul_ediv_cancel_left _ (by omega)] at h4
    split
    · exact q1.1
    · exact h2

/-- The last share takes all that is there. -/
theorem worth_last {s : Stake} (hg : GoodS s) {v k : Int} (hv : 0 ≤ v ∧ v < 6) (h0 : 1 ≤ k) (h : k = s.Validators.Shares.get v) : worth s v k = s.Validators.Tokens.get v := worth_all h0 (hg.at hv).1.1 h

theorem good_undelegate {s : Stake} {d v k : Int} {w : Wait} (h : (undelegateS s d v k w).2 = 0) : GoodS (undelegateS s d v k w).1 := by
  obtain ⟨hg, hd, hv, hk, hw, h60, hN, hn, hm, e⟩ := undelegate_ok h
  rw [e]
  obtain ⟨b1, b2, b3, b4, b5, b6⟩ := unbondB_ok hm
  have hle := shares_le hg hd hv
  have hwl := worth_le hg hv (by omega) (Int.le_trans hk.2 hle)
  have hall : k = s.Validators.Shares.get v → worth s v k = s.Validators.Tokens.get v := fun h => worth_last hg hv hk.1 h
  obtain ⟨b, hb⟩ : ∃ b, b = (moveB s.Bank 4 5 (worth s v k)).1 := ⟨_, rfl⟩
  obtain ⟨n, hnn⟩ : ∃ n, n = worth s v k := ⟨_, rfl⟩
  rw [← hb] at b1 b4 b5 b6 ⊢
  rw [← hnn] at b4 b5 ⊢
  rw [← hnn] at hn b2 b3 hwl hall
  obtain ⟨g1, g2, g3, g4, g5, g6, g7⟩ := id hg
  have o2 : okN s.Bank.Bonded := g1.2.2.2.2.1
  unfold okN at o2
  refine ⟨b1, ⟨?_, ?_, ?_⟩, fun u hu => ?_, ?_, ?_, ?_, ?_⟩
  · show 1 ≤ s.Next + 1; omega
  · show s.Next + 1 ≤ _; omega
  · show (s.Waits ++ [outW s d v n w]).length ≤ 60
    rw [List.length_append]; simp; omega
  · have hu' : 0 ≤ (u : Int) ∧ (u : Int) < 6 := by omega
    by_cases he : (u : Int) = v
    · obtain ⟨⟨q1, q2, q3, q4, q5⟩, q6, q7⟩ := hg.at hv
      have r0 := hg.shr (d := 0) (by omega) hv; have r1 := hg.shr (d := 1) (by omega) hv; have r2 := hg.shr (d := 2) (by omega) hv; have r3 := hg.shr (d := 3) (by omega) hv
      unfold shSum shr at q7
      rw [he]
      have sh : ∀ d' : Int, 0 ≤ d' → d' < 4 → A46.get (subS s b d v n k w).Shares d' v = if d' = d then A46.get s.Shares d v - k else A46.get s.Shares d' v := fun d' h0 h1 => by
        show A46.get (A46.set s.Shares d v (A46.get s.Shares d v - k)) d' v = _
        rw [A46_get_set _ _ hd hv ⟨h0, h1⟩ hv]
        by_cases h : d' = d
        · rw [if_pos ⟨h, rfl⟩, if_pos h]
        · rw [if_neg (fun x => h x.1), if_neg h]
      have eT : (subS s b d v n k w).Validators.Tokens.get v = s.Validators.Tokens.get v - n := A6_get_same _ _ hv
      have eS : (subS s b d v n k w).Validators.Shares.get v = s.Validators.Shares.get v - k := A6_get_same _ _ hv
      unfold inA at q1 q2
      refine ⟨⟨?_, ?_, q3, ?_, q5⟩, fun d' hd' => ?_, ?_⟩
      · rw [eT]; unfold inA; omega
      · rw [eS]; unfold inA; omega
      · rw [eT, eS]; omega
      · unfold shr
        rw [sh d' (by omega) (by omega)]
        split
        · have := hg.shr hd hv; unfold inA; omega
        · exact q6 d' hd'
      · unfold shSum shr
        rw [eS, sh 0 (by omega) (by omega), sh 1 (by omega) (by omega), sh 2 (by omega) (by omega), sh 3 (by omega) (by omega)]
        obtain rfl | rfl | rfl | rfl : d = 0 ∨ d = 1 ∨ d = 2 ∨ d = 3 := by omega
        all_goals
          simp
          omega
    · refine goodV_congr (A6_get_other _ _ hv hu' he) (A6_get_other _ _ hv hu' he) rfl rfl rfl (fun d' h0 h1 => ?_) (g3 u hu)
      show A46.get (A46.set s.Shares d v (A46.get s.Shares d v - k)) d' u = _
      rw [A46_get_set _ _ hd hv ⟨h0, h1⟩ hu', if_neg (fun x => he x.2)]
  · exact goodWs_snoc (w := outW s d v n w) rfl ⟨hd.1, hd.2, hv.1, hv.2, ⟨by show 0 ≤ n; omega, by show n ≤ 1125899906842624; omega⟩, hw.1, hw.2⟩ (show (0 : Int) < s.Next by have := g2.1; omega) g4
  · show sum6 (s.Validators.Tokens.set v (s.Validators.Tokens.get v - n)) = b.Bonded
    rw [sum6_set _ _ hv, g5, b4]; omega
  · show sumW (s.Waits ++ [outW s d v n w]) = b.Waiting
    rw [sumW_app, g6, b5]
    show s.Bank.Waiting + (n + 0) = _
    omega
  · show sum6 s.Validators.Lost = b.Burnt
    rw [b6]; exact g7

/-! Release, Jail, Unjail, Bury. -/

theorem sumW_map {f : Wait → Wait} (hf : ∀ w, (f w).Amount = w.Amount) : ∀ l : List Wait, sumW (l.map f) = sumW l
  | [] => rfl
  | w :: l => by simp only [List.map_cons, sumW, hf, sumW_map hf l]

theorem good_release {s : Stake} {c h : Int} (hg : GoodS s) : GoodS (releaseS s c h) := by
  obtain ⟨g1, g2, g3, g4, g5, g6, g7⟩ := hg
  refine ⟨g1, ⟨g2.1, g2.2.1, ?_⟩, g3, ?_, g5, ?_, g7⟩
  · show (s.Waits.map (relW c h)).length ≤ 60
    rw [List.length_map]; exact g2.2.2
  · exact goodWs_map (f := relW c h) (fun w hw => ⟨rfl, rfl, rfl, hw, rfl, rfl⟩) g4
  · show sumW (s.Waits.map (relW c h)) = _
    rw [sumW_map (f := relW c h) (fun _ => rfl)]; exact g6

theorem judge_ok {s : Stake} {v what : Int} (h : (judgeS s v what).2 = 0) : GoodS s ∧ (0 ≤ v ∧ v < 6) ∧ ¬ (what = 0 ∧ s.Validators.Jailed.get v = true) ∧ ¬ (0 < what ∧ s.Validators.Dead.get v = true) ∧ ¬ (what = 1 ∧ s.Validators.Jailed.get v = false) ∧
    judgeS s v what = (judgedS s v (what != 1) (what == 2), 0) := by
  unfold judgeS at h ⊢
  by_cases h0 : knownS s 0 v ≠ 0
  · rw [if_pos h0] at h; exact absurd h h0
  · rw [if_neg h0] at h ⊢
    obtain ⟨hg, hd, hv⟩ := known_ok (Decidable.not_not.1 h0)
    by_cases h1 : what = 0 ∧ s.Validators.Jailed.get v = true
    · rw [if_pos h1] at h; cases h
    · rw [if_neg h1] at h ⊢
      by_cases h2 : 0 < what ∧ s.Validators.Dead.get v = true
      · rw [if_pos h2] at h; cases h
      · rw [if_neg h2] at h ⊢
        by_cases h3 : what = 1 ∧ s.Validators.Jailed.get v = false
        · rw [if_pos h3] at h; cases h
        · rw [if_neg h3]
          exact ⟨hg, hv, h1, h2, h3, rfl⟩

theorem judge_bad {s : Stake} {v what : Int} (h : (judgeS s v what).2 ≠ 0) : (judgeS s v what).1 = s := by
  unfold judgeS at h ⊢
  repeat' split
  all_goals first | rfl | skip
  rename_i h0 h1 h2 h3
  rw [if_neg h0, if_neg h1, if_neg h2, if_neg h3] at h
  exact absurd rfl h

theorem good_judge {s : Stake} {v what : Int} (hw : what = 0 ∨ what = 1 ∨ what = 2) (h : (judgeS s v what).2 = 0) : GoodS (judgeS s v what).1 := by
  obtain ⟨hg, hv, h1, h2, h3, e⟩ := judge_ok h
  rw [e]
  obtain ⟨g1, g2, g3, g4, g5, g6, g7⟩ := id hg
  refine ⟨g1, g2, fun u hu => ?_, g4, g5, g6, g7⟩
  have hu' : 0 ≤ (u : Int) ∧ (u : Int) < 6 := by omega
  by_cases he : (u : Int) = v
  · obtain ⟨⟨q1, q2, q3, q4, q5⟩, q6, q7⟩ := hg.at hv
    rw [he]
    have eJ : (judgedS s v (what != 1) (what == 2)).Validators.Jailed.get v = (what != 1) := A6_get_same _ _ hv
    have eD : (judgedS s v (what != 1) (what == 2)).Validators.Dead.get v = (what == 2) := A6_get_same _ _ hv
    refine ⟨⟨q1, q2, q3, q4, ?_⟩, q6, q7⟩
    rw [eJ, eD]
    rcases hw with rfl | rfl | rfl <;> simp
  · exact goodV_congr (s := s) rfl rfl rfl (A6_get_other _ _ hv hu' he) (A6_get_other _ _ hv hu' he) (fun _ _ _ => rfl) (g3 u hu)

/-! Pay. -/

theorem payF_fold (time : Int) : ∀ (l : List Wait) (b : Bank) (L : List Wait) (P : List Int), l.foldl (payF time) (b, L, P) = ((l.filter (dueW time)).foldl (fun b w => (payB b w.D w.Amount).1) b, L ++ l.filter (fun w => !dueW time w), P ++ (l.filter (dueW time)).map (·.Number))
  | [], b, L, P => by simp
  | w :: l, b, L, P => by
    rw [List.foldl_cons, List.filter_cons, List.filter_cons]
    by_cases h : dueW time w = true
    · have e : payF time (b, L, P) w = ((payB b w.D w.Amount).1, L, P ++ [w.Number]) := by unfold payF; rw [if_pos h]
      rw [e, payF_fold time l, if_pos h, if_neg (by simp [h]), List.foldl_cons, List.map_cons, List.append_assoc]
      rfl
    · have e : payF time (b, L, P) w = (b, L ++ [w], P) := by unfold payF; rw [if_neg h]
      rw [e, payF_fold time l, if_neg h, if_pos (by simpa using h), List.append_assoc]
      rfl

/-- The bank when all that is due is paid. -/
def paidB (s : Stake) (time : Int) : Bank := (s.Waits.filter (dueW time)).foldl (fun b w => (payB b w.D w.Amount).1) s.Bank
theorem payS_eq {s : Stake} (hg : GoodS s) (time : Int) : payS s time = ({ s with Bank := paidB s time, Waits := s.Waits.filter (fun w => !dueW time w) }, (s.Waits.filter (dueW time)).map (·.Number), 0) := by
  unfold payS paidB
  rw [if_neg (by simpa using hg), payF_fold]
  simp only [List.nil_append]

theorem paid_bank : ∀ {l : List Wait} {b : Bank} {n p : Int}, GoodWs n p l → GoodB b → sumW l ≤ b.Waiting →
    GoodB (l.foldl (fun b w => (payB b w.D w.Amount).1) b) ∧ (l.foldl (fun b w => (payB b w.D w.Amount).1) b).Waiting = b.Waiting - sumW l ∧ (l.foldl (fun b w => (payB b w.D w.Amount).1) b).Bonded = b.Bonded ∧ (l.foldl (fun b w => (payB b w.D w.Amount).1) b).Burnt = b.Burnt
  | [], b, n, p, _, hb, _ => ⟨hb, by show b.Waiting = b.Waiting - 0; omega, rfl, rfl⟩
  | w :: l, b, n, p, hw, hb, hs => by
    obtain ⟨_, _, d0, d1, _, _, ha, _, _⟩ := hw.1
    have hn := goodWs_sum hw.2
    simp only [sumW] at hs
    obtain ⟨_, p2, p3, p4, p5⟩ := payB_ok hb ⟨d0, d1⟩ ha (by omega)
    obtain ⟨k1, k2, k3, k4⟩ := paid_bank hw.2 p2 (by rw [p3]; omega)
    rw [List.foldl_cons]
    refine ⟨k1, ?_, k3.trans p4, k4.trans p5⟩
    rw [k2, p3]
    simp only [sumW]; omega

theorem paidB_ok {s : Stake} (hg : GoodS s) (time : Int) : GoodB (paidB s time) ∧ (paidB s time).Waiting = sumW (s.Waits.filter (fun w => !dueW time w)) ∧ (paidB s time).Bonded = s.Bank.Bonded ∧ (paidB s time).Burnt = s.Bank.Burnt := by
  have h1 := sumW_filter (dueW time) s.Waits
  have h2 := goodWs_sum (goodWs_filter (fun w => !dueW time w) hg.2.2.2.1)
  have h3 := hg.2.2.2.2.2.1
  obtain ⟨k1, k2, k3, k4⟩ := paid_bank (goodWs_filter (dueW time) hg.2.2.2.1) hg.1 (by omega)
  exact ⟨k1, by unfold paidB; rw [k2]; omega, k3, k4⟩

theorem good_pay {s : Stake} (hg : GoodS s) (time : Int) : GoodS (payS s time).1 := by
  rw [payS_eq hg]
  obtain ⟨k1, k2, k3, k4⟩ := paidB_ok hg time
  obtain ⟨g1, g2, g3, g4, g5, g6, g7⟩ := hg
  refine ⟨k1, ⟨g2.1, g2.2.1, ?_⟩, g3, goodWs_filter _ g4, ?_, ?_, ?_⟩
  · exact Nat.le_trans (List.length_filter_le _ _) g2.2.2
  · rw [k3]; exact g5
  · exact k2.symm
  · rw [k4]; exact g7

/-! Slash. -/

theorem sumN_eq (v h f : Int) : ∀ (l : List Wait) (t : Int), l.foldl (fun t w => t + slN v h f w) t = t + (sumW l - sumW (l.map (slW v h f)))
  | [], t => by simp [sumW]
  | w :: l, t => by
    rw [List.foldl_cons, sumN_eq v h f l, List.map_cons]
    simp only [sumW]
    have : (slW v h f w).Amount = w.Amount - slN v h f w := by
      unfold slW slN
      split
      · rfl
      · omega
    rw [this]; omega

theorem slash_ok {s : Stake} {v h f : Int} (hs : (slashS s v h f).2.2 = 0) : GoodS s ∧ (0 ≤ v ∧ v < 6) ∧ (0 ≤ f ∧ f ≤ 1000) ∧ 0 ≤ bondedN s v f ∧ bondedN s v f ≤ s.Validators.Tokens.get v ∧ 0 ≤ sumN v h f s.Waits ∧ sumN v h f s.Waits ≤ s.Bank.Waiting ∧
    slashS s v h f = (⟨⟨s.Bank.Free, s.Bank.Bonded - bondedN s v f, s.Bank.Waiting - sumN v h f s.Waits, s.Bank.Burnt + bondedN s v f + sumN v h f s.Waits⟩, { s.Validators with Tokens := s.Validators.Tokens.set v (s.Validators.Tokens.get v - bondedN s v f), Lost := s.Validators.Lost.set v (s.Validators.Lost.get v + (bondedN s v f + sumN v h f s.Waits)) }, s.Shares, s.Waits.map (slW v h f), s.Next⟩, bondedN s v f + sumN v h f s.Waits, 0) ∧
    GoodB ⟨s.Bank.Free, s.Bank.Bonded - bondedN s v f, s.Bank.Waiting - sumN v h f s.Waits, s.Bank.Burnt + bondedN s v f + sumN v h f s.Waits⟩ := by
  unfold slashS at hs ⊢
  by_cases h0 : knownS s 0 v ≠ 0
  · rw [if_pos h0] at hs; exact absurd hs h0
  · rw [if_neg h0] at hs ⊢
    obtain ⟨hg, hd, hv⟩ := known_ok (Decidable.not_not.1 h0)
    by_cases hf : f < 0 ∨ 1000 < f
    · rw [if_pos hf] at hs; cases hs
    · rw [if_neg hf]
      have hf' : 0 ≤ f ∧ f ≤ 1000 := by omega
      obtain ⟨_, b2, b3⟩ := part_bound (hg.at hv).1.1 hf'
      obtain ⟨s1, s2⟩ := slI_end hg (v := v) (h := h) hf'
      obtain ⟨k1, k2⟩ := burnB_ok hg.1 b2 (Int.le_trans b3 (tokens_le hg hv).1) s1 s2
      refine ⟨hg, hv, hf', b2, b3, s1, s2, ?_, ?_⟩
      · unfold bondedN; rw [k1]
      · rw [k1] at k2; exact k2

theorem slash_bad {s : Stake} {v h f : Int} (hs : (slashS s v h f).2.2 ≠ 0) : (slashS s v h f).1 = s ∧ (slashS s v h f).2.1 = 0 := by
  unfold slashS at hs ⊢
  split
  · exact ⟨rfl, rfl⟩
  · split
    · exact ⟨rfl, rfl⟩
    · rename_i h0 h1
      rw [if_neg h0, if_neg h1] at hs
      exact absurd rfl hs

theorem good_slash {s : Stake} {v h f : Int} (hs : (slashS s v h f).2.2 = 0) : GoodS (slashS s v h f).1 := by
  obtain ⟨hg, hv, hf, b1, b2, s1, s2, e, hb⟩ := slash_ok hs
  rw [e]
  obtain ⟨x, hx⟩ : ∃ x, x = bondedN s v f := ⟨_, rfl⟩
  obtain ⟨y, hy⟩ : ∃ y, y = sumN v h f s.Waits := ⟨_, rfl⟩
  have hsum : y = sumW s.Waits - sumW (s.Waits.map (slW v h f)) := by
    rw [hy]; unfold sumN; rw [sumN_eq]; omega
  have hall : bondedN s v f ≤ s.Validators.Tokens.get v := b2
  rw [← hx] at b1 b2 hb ⊢
  rw [← hy] at s1 s2 hb ⊢
  obtain ⟨g1, g2, g3, g4, g5, g6, g7⟩ := id hg
  have htok := tokens_le hg hv
  have o2 : okN (s.Bank.Burnt + x + y) := hb.2.2.2.2.2.2.1
  unfold okN at o2
  refine ⟨hb, ⟨g2.1, g2.2.1, ?_⟩, fun u hu => ?_, ?_, ?_, ?_, ?_⟩
  · show (s.Waits.map (slW v h f)).length ≤ 60
    rw [List.length_map]; exact g2.2.2
  · have hu' : 0 ≤ (u : Int) ∧ (u : Int) < 6 := by omega
    by_cases he : (u : Int) = v
    · obtain ⟨⟨q1, q2, q3, q4, q5⟩, q6, q7⟩ := hg.at hv
      rw [he]
      unfold inA at q1 q3
      refine ⟨⟨?_, q2, ?_, ?_, q5⟩, q6, q7⟩
      · show inA ((s.Validators.Tokens.set v (s.Validators.Tokens.get v - x)).get v)
        rw [A6_get_same _ _ hv]; unfold inA; omega
      · show inA ((s.Validators.Lost.set v (s.Validators.Lost.get v + (x + y))).get v)
        rw [A6_get_same _ _ hv]; unfold inA; omega
      · show ¬ (s.Validators.Shares.get v = 0 ∧ 0 < (s.Validators.Tokens.set v (s.Validators.Tokens.get v - x)).get v)
        rw [A6_get_same _ _ hv]; omega
    · exact goodV_congr (A6_get_other _ _ hv hu' he) rfl (A6_get_other _ _ hv hu' he) rfl rfl (fun _ _ _ => rfl) (g3 u hu)
  · refine goodWs_map (fun w hw => ?_) g4
    have hp := part_bound hw hf
    unfold slW
    split
    · exact ⟨rfl, rfl, rfl, ⟨by show 0 ≤ w.Amount - _; omega, by show w.Amount - _ ≤ _; unfold inA at hw; omega⟩, rfl, rfl⟩
    · exact ⟨rfl, rfl, rfl, hw, rfl, rfl⟩
  · show sum6 (s.Validators.Tokens.set v (s.Validators.Tokens.get v - x)) = s.Bank.Bonded - x
    rw [sum6_set _ _ hv, g5]; omega
  · show sumW (s.Waits.map (slW v h f)) = s.Bank.Waiting - y
    omega
  · show sum6 (s.Validators.Lost.set v (s.Validators.Lost.get v + (x + y))) = s.Bank.Burnt + x + y
    rw [sum6_set _ _ hv, g7]; omega

end Go.Proofs.Ytbpehnghffljiaa.Ab
