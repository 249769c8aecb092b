/-
  The laws of stakes without the document: rounds, slashes, rows of orders.
-/
import Derived.Test.YtbpehnghffljiaaFStakeLaw
import Derived.Test.YtbpehnghffljiaaPlStake7
namespace Go.Proofs.Ytbpehnghffljiaa.Ab
open Go Go.RowKit
set_option linter.unusedVariables false
set_option linter.unusedSimpArgs false

/-! In and out. -/

theorem known_zero {s : Stake} (hg : GoodS s) {d v : Int} (hd : 0 ≤ d ∧ d < 4) (hv : 0 ≤ v ∧ v < 6) : knownS s d v = 0 := by
  unfold knownS
  rw [if_neg (by simpa using hg), if_neg (by omega)]

theorem undelegate_code {s : Stake} (hg : GoodS s) {d v k : Int} {w : Wait} (hd : 0 ≤ d ∧ d < 4) (hv : 0 ≤ v ∧ v < 6) (hk : 1 ≤ k) (hk2 : k ≤ A46.get s.Shares d v) (hw : 0 ≤ w.Height ∧ 0 ≤ w.Due) :
    (undelegateS s d v k w).2 = 0 ∨ (undelegateS s d v k w).2 = 6 ∨ (undelegateS s d v k w).2 = 8 := by
  have hsh := hg.shr hd hv
  have hle := shares_le hg hd hv
  unfold undelegateS
  rw [if_neg (by rw [known_zero hg hd hv]; simp), if_neg (by omega), if_neg (by omega)]
  by_cases h3 : 60 ≤ s.Waits.length ∨ 1125899906842624 ≤ s.Next
  · rw [if_pos h3]; exact .inr (.inl rfl)
  · rw [if_neg h3]
    by_cases h4 : worth s v k < 1
    · rw [if_pos h4]; exact .inr (.inr rfl)
    · rw [if_neg h4]
      have h5 := worth_le hg hv (k := k) (by omega) (by omega)
      have h6 := (tokens_le hg hv).1
      have o2 : okN s.Bank.Bonded := hg.1.2.2.2.2.1
      unfold okN at o2
      have e := moveB_eq (f := 4) (t := 5) (n := worth s v k) hg.1 (by omega) (by omega) (by show worth s v k ≤ s.Bank.Bonded; omega)
      rw [if_neg (by rw [e]; simp)]
      exact .inl rfl

theorem round_le {T S n k : Int} (hT : 0 ≤ T) (hS : 0 ≤ S) (hn : 0 ≤ n) (hk : 1 ≤ k) (h : k * T ≤ n * S) : (mulDivP k (T + n) (S + k)).1 ≤ n := by
  unfold mulDivP
  rw [if_neg (by omega)]
  split
  · exact hn
  · show k * (T + n) / (S + k) ≤ n
    refine Int.ediv_le_of_le_mul (by omega) ?_
    rw [Int.mul_add, Int.mul_add, Int.mul_comm n k]
    omega

theorem pl_StakeRound {s : Stake} {d v n : Int} (hn : n ≤ 9223372036854775807) : sh_keep_StakeRound s d v n = some true := by
  rw [sh_keep_StakeRound, T_keep_StakeRound, Tr.run_bind (pl_Delegate hn)]
  simp only [pl_keepstakes, Option.isSome_some, Option.getD_some]
  rw [Tr.run_guard (by simp)]
  by_cases h : (delegateS s d v n).2 = 0
  · have hga := good_delegate h
    obtain ⟨hg, hd, hv, _, hn1, hTS, hs0, hS1, hk1, hb, e⟩ := delegate_ok h
    obtain ⟨k, hk⟩ : ∃ k, k = (sharesFor s v n).1 := ⟨_, rfl⟩
    rw [← hk] at hS1 hk1 e
    rw [e] at hga ⊢
    rw [Tr.run_false (by simp), Tr.run_guard hd, Tr.run_guard hv, Tr.run_guard hd, Tr.run_guard hv]
    obtain ⟨b, hbb⟩ : ∃ b, b = (bondB s.Bank d n).1 := ⟨_, rfl⟩
    rw [← hbb] at hga ⊢
    obtain ⟨⟨q1, q2, q3, q4, q5⟩, q6, q7⟩ := hg.at hv
    unfold inA at q1 q2
    have hsh := hg.shr hd hv
    have eA : A46.get (addS s b d v n k).Shares d v = A46.get s.Shares d v + k := by
      show A46.get (A46.set s.Shares d v (A46.get s.Shares d v + k)) d v = _
      rw [A46_get_set _ _ hd hv hd hv, if_pos ⟨rfl, rfl⟩]
    have eT : (addS s b d v n k).Validators.Tokens.get v = s.Validators.Tokens.get v + n := A6_get_same _ _ hv
    have eS : (addS s b d v n k).Validators.Shares.get v = s.Validators.Shares.get v + k := A6_get_same _ _ hv
    have ew : IntKind.i64.wrap (A46.get (addS s b d v n k).Shares d v - A46.get s.Shares d v) = k := by
      rw [eA, i64_in (by omega) (by omega)]; omega
    simp only [ew]
    obtain ⟨w, hw⟩ : ∃ w, w = (⟨0, 0, 0, 0, 0, 0, 0, 0⟩ : Wait) := ⟨_, rfl⟩
    rw [← hw]
    have hw0 : 0 ≤ w.Height ∧ 0 ≤ w.Due := by rw [hw]; exact ⟨Int.le_refl _, Int.le_refl _⟩
    rw [Tr.run_bind (pl_Undelegate (by omega))]
    by_cases hu : (undelegateS (addS s b d v n k) d v k w).2 = 0
    · obtain ⟨_, _, _, _, _, _, _, u1, u2, u3⟩ := undelegate_ok hu
      obtain ⟨a, ha⟩ : ∃ a, a = addS s b d v n k := ⟨_, rfl⟩
      rw [← ha] at eA eT eS u1 u2 u3 hga ⊢
      have hwn : worth a v k ≤ n := by
        unfold worth
        rw [eT, eS]
        refine round_le q1.1 q2.1 (by omega) hk1 ?_
        by_cases h0 : s.Validators.Shares.get v = 0
        · have hT0 : s.Validators.Tokens.get v = 0 := by omega
          rw [h0, hT0]; simp
        · have hT0 : s.Validators.Tokens.get v ≠ 0 := fun h1 => hTS ⟨h0, h1⟩
          have es : sharesFor s v n = mulDivP n (s.Validators.Shares.get v) (s.Validators.Tokens.get v) := by unfold sharesFor; rw [if_neg h0]
          rw [es] at hs0 hk
          obtain ⟨_, _, _, m4, _⟩ := mulDivP_ok hs0
          rw [m4] at hk
          rw [hk]
          exact Int.ediv_mul_le _ hT0
      rw [u3, Tr.run_false (by simp)]
      have e1 : (subS a (moveB a.Bank 4 5 (worth a v k)).1 d v (worth a v k) k w).Waits = a.Waits ++ [outW a d v (worth a v k) w] := rfl
      have e2 : (subS a (moveB a.Bank 4 5 (worth a v k)).1 d v (worth a v k) k w).Validators.Tokens.get v = a.Validators.Tokens.get v - worth a v k := A6_get_same _ _ hv
      have e3 : (subS a (moveB a.Bank 4 5 (worth a v k)).1 d v (worth a v k) k w).Validators.Shares.get v = a.Validators.Shares.get v - k := A6_get_same _ _ hv
      have h60 : a.Waits.length ≤ 60 := hga.2.1.2.2
      have hlen : (a.Waits ++ [outW a d v (worth a v k) w]).length = a.Waits.length + 1 := by simp
      have e4 : IntKind.i64.wrap ((((a.Waits ++ [outW a d v (worth a v k) w]).length : Nat) : Int) - 1) = (a.Waits.length : Int) := by
        have e40 : ((((a.Waits ++ [outW a d v (worth a v k) w]).length : Nat) : Int) - 1) = (a.Waits.length : Int) := by rw [hlen]; omega
        rw [e40]
        exact i64_in (by omega) (by omega)
      have e5 : (a.Waits ++ [outW a d v (worth a v k) w]).getD a.Waits.length default = outW a d v (worth a v k) w := by
        rw [List.getD_eq_getElem?_getD, List.getElem?_append_right (Nat.le_refl _), Nat.sub_self]; rfl
      simp only [e1, e2, e3, e4, Int.toNat_natCast, e5]
      rw [Tr.run_guard ⟨by omega, by rw [sl_len_waits, hlen]; omega⟩]
      repeat rw [Tr.run_guard (by intro _; exact ⟨hv, trivial⟩)]
      rw [Tr.run_leaf, eT, eS]
      congr 1
      simp only [Bool.and_eq_true, decide_eq_true_eq, beq_iff_eq]
      exact ⟨⟨⟨⟨⟨by omega, hwn⟩, rfl⟩, rfl⟩, by omega⟩, by omega⟩
    · have hc := undelegate_code hga hd hv hk1 (by rw [eA]; omega) hw0
      rw [Tr.run_true (by simpa using hu), Tr.run_leaf]
      congr 1
      rcases hc with hc | hc | hc
      · exact absurd hc hu
      · rw [hc]; rfl
      · rw [hc]; rfl
  · rw [Tr.run_true (by simp [h]), Tr.run_bind rfl, Tr.run_leaf]

/-! A slash. -/

theorem pl_StakeSlashed {s : Stake} {v h f : Int} : sh_keep_StakeSlashed s v h f = some true := by
  rw [sh_keep_StakeSlashed, T_keep_StakeSlashed, Tr.run_bind pl_Slash]
  simp only [pl_keepstakes, Option.isSome_some, Option.getD_some]
  rw [Tr.run_guard (by simp)]
  by_cases hs : (slashS s v h f).2.2 = 0
  · have hga := good_slash hs
    obtain ⟨hg, hv, hf, b1, b2, s1, s2, e, hb⟩ := slash_ok hs
    have h60 := hg.2.1.2.2
    obtain ⟨n, hn⟩ : ∃ n, n = (slashS s v h f).2.1 := ⟨_, rfl⟩
    obtain ⟨a, ha⟩ : ∃ a, a = (slashS s v h f).1 := ⟨_, rfl⟩
    have en : n = bondedN s v f + sumN v h f s.Waits := by rw [hn, e]
    have eW : a.Waits = s.Waits.map (slW v h f) := by rw [ha, e]
    have eSh : a.Shares = s.Shares := by rw [ha, e]
    have eB : a.Bank.Burnt = s.Bank.Burnt + bondedN s v f + sumN v h f s.Waits := by rw [ha, e]
    have eT : a.Validators.Tokens = s.Validators.Tokens.set v (s.Validators.Tokens.get v - bondedN s v f) := by rw [ha, e]
    have eS : a.Validators.Shares = s.Validators.Shares := by rw [ha, e]
    have eL : a.Validators.Lost = s.Validators.Lost.set v (s.Validators.Lost.get v + (bondedN s v f + sumN v h f s.Waits)) := by rw [ha, e]
    have eJ : a.Validators.Jailed = s.Validators.Jailed := by rw [ha, e]
    have eD : a.Validators.Dead = s.Validators.Dead := by rw [ha, e]
    have hcode : (slashS s v h f).2.2 = 0 := hs
    have hgood : GoodS a := by rw [ha]; exact hga
    rw [← ha, ← hn, Tr.run_false (by simp [hcode])]
    have k1 : sh_keep_StakeSlashed_l1 v h n 0 s a = some (.inr (v, h, n, s, a)) := by
      have := iter_uptof (F := fun s : Int × Int × Int × Int × Stake × Stake => (T_keep_StakeSlashed_l1 s.1 s.2.1 s.2.2.1 s.2.2.2.1 s.2.2.2.2.1 s.2.2.2.2.2).run) 6 (fun i (_ : Unit) => (v, h, n, (i : Int), s, a)) (fun _ _ => True) (fun _ _ => .inr (v, h, n, s, a)) (by
          intro t _
          simp only [T_keep_StakeSlashed_l1]; rw [Tr.run_false (by rfl), Tr.run_leaf]) (by
          intro i t hi _
          refine .inl ⟨(), ?_, trivial, rfl⟩
          simp only [T_keep_StakeSlashed_l1]
          rw [Tr.run_true (by simp; omega), Tr.run_guard (by intro _; exact ⟨by omega, trivial⟩), Tr.run_guard (by intro _; exact ⟨by omega, trivial⟩), Tr.run_false (by
            by_cases hiv : (i : Int) = v
            · simp [hiv]
            · rw [eT, eS, eL, eJ, eD, A6_get_other _ _ hv (by omega) hiv, A6_get_other _ _ hv (by omega) hiv]; simp), Tr.run_leaf, i64_nat (by omega)]) 0 () (by omega) trivial
      rw [sh_keep_StakeSlashed_l1]; exact this
    have k2 : sh_keep_StakeSlashed_l2 v h n s.Waits s.Waits.length 0 s a = some (.inr (v, n, s, a)) := by
      have := iter_uptof (F := fun s : Int × Int × Int × (List Wait) × Int × Int × Stake × Stake => (T_keep_StakeSlashed_l2 s.1 s.2.1 s.2.2.1 s.2.2.2.1 s.2.2.2.2.1 s.2.2.2.2.2.1 s.2.2.2.2.2.2.1 s.2.2.2.2.2.2.2).run) s.Waits.length (fun i (_ : Unit) => (v, h, n, s.Waits, (s.Waits.length : Int), (i : Int), s, a)) (fun _ _ => True) (fun _ _ => .inr (v, n, s, a)) (by
          intro t _
          simp only [T_keep_StakeSlashed_l2]; rw [Tr.run_false (by simp), Tr.run_leaf]) (by
          intro i t hi _
          refine .inl ⟨(), ?_, trivial, rfl⟩
          have hg2 : a.Waits.getD i default = slW v h f (s.Waits.getD i default) := by
            rw [eW, getD_eq_at (by rw [List.length_map]; exact hi), getD_eq_at hi, List.getElem_map]
          have hal : a.Waits.length = s.Waits.length := by rw [eW, List.length_map]
          have hA := (goodWs_mem hg.2.2.2.1 (getD_mem (l := s.Waits) (k := i) hi default)).2.2.2.2.2.2.1
          have hp := part_bound hA hf
          simp only [T_keep_StakeSlashed_l2]
          rw [Int.toNat_natCast, hg2]
          obtain ⟨w, hw⟩ : ∃ w, w = s.Waits.getD i default := ⟨_, rfl⟩
          rw [← hw] at hA hp ⊢
          rw [Tr.run_true (by simpa using hi), Tr.run_guard ⟨by omega, by rw [sl_len_waits]; omega⟩, Tr.run_guard ⟨by omega, by rw [sl_len_waits]; omega⟩, Tr.run_false (by
            by_cases hh : hitW v h w = true
            · have e1 : (slW v h f w).Amount = w.Amount - (partP w.Amount f).1 := by unfold slW; rw [if_pos hh]
              unfold hitW at hh
              simp only [Bool.and_eq_true, beq_iff_eq, decide_eq_true_eq] at hh
              rw [e1]
              simp only [Bool.or_eq_false_iff, Bool.and_eq_false_iff, decide_eq_false_iff_not, bne_eq_false_iff_eq]
              exact ⟨by omega, .inl ⟨hh.1, by omega⟩⟩
            · have e1 : slW v h f w = w := by unfold slW; rw [if_neg hh]
              rw [e1]; simp), Tr.run_leaf, i64_nat (by omega)]) 0 () (by omega) trivial
      rw [sh_keep_StakeSlashed_l2]; exact this
    rw [Tr.run_inr k1]
    simp only []
    rw [Tr.run_inr k2]
    simp only []
    have o3 : okN (s.Bank.Burnt + bondedN s v f + sumN v h f s.Waits) := hb.2.2.2.2.2.2.1
    have o4 : okN s.Bank.Burnt := hg.1.2.2.2.2.2.2.1
    unfold okN at o3 o4
    have hL := (hg.at hv).1.2.2.1
    unfold inA at hL
    have c1 : IntKind.i64.wrap (a.Bank.Burnt - s.Bank.Burnt) = n := by rw [eB, en, i64_in (by omega) (by omega)]; omega
    have c2 : IntKind.i64.wrap (a.Validators.Lost.get v - s.Validators.Lost.get v) = n := by rw [eL, A6_get_same _ _ hv, en, i64_in (by omega) (by omega)]; omega
    simp only [c1, c2, eSh, pl_stakeGood, hgood, Option.isSome_some, Option.getD_some]
    rw [Tr.run_guard (by intro _; exact ⟨hv, trivial⟩), Tr.run_guard (by intro _; exact ⟨hv, trivial⟩), Tr.run_guard (by simp), Tr.run_leaf]
    simp
  · obtain ⟨_, h2⟩ := slash_bad hs
    rw [Tr.run_true (by simp [hs]), Tr.run_guard (by simp), Tr.run_leaf, h2]
    rfl

/-! Rows of orders. -/

/-- What an order leaves as it was. -/
def Kept (s t : Stake) (e : Int) : Prop :=
  GoodS t ∧ (e ≠ 0 → t = s) ∧ s.Bank.Burnt ≤ t.Bank.Burnt ∧ ∀ v : Int, 0 ≤ v → v < 6 → (s.Validators.Dead.get v = true → t.Validators.Dead.get v = true) ∧ s.Validators.Lost.get v ≤ t.Validators.Lost.get v
theorem Kept.same {s : Stake} (hg : GoodS s) (e : Int) : Kept s s e := ⟨hg, fun _ => rfl, Int.le_refl _, fun _ _ _ => ⟨id, Int.le_refl _⟩⟩

theorem kept_delegate {s : Stake} (hg : GoodS s) (d v n : Int) : Kept s (delegateS s d v n).1 (delegateS s d v n).2 := by
  by_cases h : (delegateS s d v n).2 = 0
  · have hga := good_delegate h
    obtain ⟨_, _, _, _, _, _, _, _, _, hb, e⟩ := delegate_ok h
    have := (bondB_ok hb).2.2.2.2.2
    rw [e] at hga ⊢
    exact ⟨hga, fun h => absurd rfl h, by show _ ≤ (bondB s.Bank d n).1.Burnt; omega, fun _ _ _ => ⟨id, Int.le_refl _⟩⟩
  · rw [delegate_bad h]; exact .same hg _
theorem kept_undelegate {s : Stake} (hg : GoodS s) (d v k : Int) (w : Wait) : Kept s (undelegateS s d v k w).1 (undelegateS s d v k w).2 := by
  by_cases h : (undelegateS s d v k w).2 = 0
  · have hga := good_undelegate h
    obtain ⟨_, _, _, _, _, _, _, _, hb, e⟩ := undelegate_ok h
    have := (unbondB_ok hb).2.2.2.2.2
    rw [e] at hga ⊢
    exact ⟨hga, fun h => absurd rfl h, by show _ ≤ (moveB s.Bank 4 5 (worth s v k)).1.Burnt; omega, fun _ _ _ => ⟨id, Int.le_refl _⟩⟩
  · rw [undelegate_bad h]; exact .same hg _
theorem kept_judge {s : Stake} (hg : GoodS s) (v : Int) {what : Int} (hw : what = 0 ∨ what = 1 ∨ what = 2) : Kept s (judgeS s v what).1 (judgeS s v what).2 := by
  by_cases h : (judgeS s v what).2 = 0
  · have hga := good_judge hw h
    obtain ⟨_, hv, h1, h2, h3, e⟩ := judge_ok h
    rw [e] at hga ⊢
    refine ⟨hga, fun h => absurd rfl h, Int.le_refl _, fun u h0 h6 => ⟨fun hd => ?_, Int.le_refl _⟩⟩
    show (s.Validators.Dead.set v (what == 2)).get u = true
    rw [A6_get_set _ _ hv ⟨h0, h6⟩]
    split
    · rename_i huv
      rw [huv] at hd
      rcases hw with rfl | rfl | rfl
      · have := (hg.at hv).1.2.2.2.2
        cases hj : s.Validators.Jailed.get v
        · exact absurd ⟨hd, hj⟩ this
        · exact absurd ⟨rfl, hj⟩ h1
      · exact absurd ⟨by omega, hd⟩ h2
      · rfl
    · exact hd
  · rw [judge_bad h]; exact .same hg _
theorem kept_slash {s : Stake} (hg : GoodS s) (v h f : Int) : Kept s (slashS s v h f).1 (slashS s v h f).2.2 := by
  by_cases hs : (slashS s v h f).2.2 = 0
  · have hga := good_slash hs
    obtain ⟨_, hv, hf, b1, b2, s1, s2, e, hb⟩ := slash_ok hs
    rw [e] at hga ⊢
    refine ⟨hga, fun h => absurd rfl h, by show _ ≤ s.Bank.Burnt + bondedN s v f + sumN v h f s.Waits; omega, fun u h0 h6 => ⟨id, ?_⟩⟩
    show _ ≤ (s.Validators.Lost.set v (s.Validators.Lost.get v + (bondedN s v f + sumN v h f s.Waits))).get u
    rw [A6_get_set _ _ hv ⟨h0, h6⟩]
    split
    · rename_i huv; rw [huv]; omega
    · exact Int.le_refl _
  · rw [(slash_bad hs).1]; exact .same hg _
theorem kept_payS {s : Stake} (hg : GoodS s) (time : Int) : Kept s (payS s time).1 (payS s time).2.2 := by
  have hga := good_pay hg time
  have hb := (paidB_ok hg time).2.2.2
  rw [payS_eq hg] at hga ⊢
  exact ⟨hga, fun h => absurd rfl h, by show _ ≤ (paidB s time).Burnt; omega, fun _ _ _ => ⟨id, Int.le_refl _⟩⟩
theorem kept_release {s : Stake} (hg : GoodS s) (c h : Int) : Kept s (releaseS s c h) 0 := ⟨good_release hg, fun h => absurd rfl h, Int.le_refl _, fun _ _ _ => ⟨id, Int.le_refl _⟩⟩

theorem pl_follow {s : Stake} (hg : GoodS s) {o : Order} (hN : o.N ≤ 9223372036854775807) : ∃ r, sh_keep_follow s o = some r ∧ Kept s r.1 r.2 := by
  rw [sh_keep_follow, T_keep_follow]
  obtain ⟨k, k1, k2, k3⟩ := pl_pick (a := o.Kind) (n := 8) (by omega) (by omega)
  obtain ⟨d, d1, d2, d3⟩ := pl_pick (a := o.D) (n := 4) (by omega) (by omega)
  obtain ⟨v, v1, v2, v3⟩ := pl_pick (a := o.V) (n := 6) (by omega) (by omega)
  obtain ⟨x9, x91, x92, x93⟩ := pl_pick (a := o.H) (n := 9) (by omega) (by omega)
  obtain ⟨x50, x501, x502, x503⟩ := pl_pick (a := o.H) (n := 50) (by omega) (by omega)
  obtain ⟨x60, x601, x602, x603⟩ := pl_pick (a := o.H) (n := 60) (by omega) (by omega)
  obtain ⟨y9, y91, y92, y93⟩ := pl_pick (a := IntKind.i64.wrap (Int.tdiv o.H 50)) (n := 9) (by omega) (by omega)
  obtain ⟨f, f1, f2, f3⟩ := pl_pick (a := o.N) (n := 1001) (by omega) (by omega)
  rw [Tr.run_bind k1]
  simp only [d1, v1, x91, x501, x601, y91, f1, pl_Delegate (s := s) (d := d) (v := v) hN, pl_Undelegate (s := s) (d := d) (v := v) hN, pl_Slash, pl_Jail, pl_Unjail, pl_Bury, pl_Pay, pl_Release hg.fit, Option.isSome_some, Option.getD_some]
  by_cases h0 : k = 0
  · rw [Tr.run_true (by simpa using h0)]
    iterate 3 rw [Tr.run_guard (by trivial)]
    exact ⟨_, Tr.run_leaf _, kept_delegate hg d v o.N⟩
  · rw [Tr.run_false (by simpa using h0)]
    by_cases h1 : k = 1
    · rw [Tr.run_true (by simpa using h1)]
      iterate 4 rw [Tr.run_guard (by trivial)]
      rw [Tr.run_guard (by omega)]
      iterate 2 rw [Tr.run_guard (by trivial)]
      exact ⟨_, Tr.run_leaf _, kept_undelegate hg d v o.N _⟩
    · rw [Tr.run_false (by simpa using h1)]
      by_cases h2 : k = 2
      · rw [Tr.run_true (by simpa using h2)]
        iterate 4 rw [Tr.run_guard (by trivial)]
        exact ⟨_, Tr.run_leaf _, kept_slash hg v x9 f⟩
      · rw [Tr.run_false (by simpa using h2)]
        by_cases h3 : k = 3
        · rw [Tr.run_true (by simpa using h3)]
          iterate 2 rw [Tr.run_guard (by trivial)]
          exact ⟨_, Tr.run_leaf _, kept_judge hg v (.inl rfl)⟩
        · rw [Tr.run_false (by simpa using h3)]
          by_cases h4 : k = 4
          · rw [Tr.run_true (by simpa using h4)]
            iterate 2 rw [Tr.run_guard (by trivial)]
            exact ⟨_, Tr.run_leaf _, kept_judge hg v (.inr (.inl rfl))⟩
          · rw [Tr.run_false (by simpa using h4)]
            by_cases h5 : k = 5
            · rw [Tr.run_true (by simpa using h5)]
              iterate 2 rw [Tr.run_guard (by trivial)]
              exact ⟨_, Tr.run_leaf _, kept_judge hg v (.inr (.inr rfl))⟩
            · rw [Tr.run_false (by simpa using h5)]
              by_cases h6 : k = 6
              · rw [Tr.run_true (by simpa using h6)]
                iterate 2 rw [Tr.run_guard (by trivial)]
                exact ⟨_, Tr.run_leaf _, kept_payS hg x60⟩
              · rw [Tr.run_false (by simpa using h6)]
                iterate 2 rw [Tr.run_guard (by trivial)]
                exact ⟨_, Tr.run_leaf _, kept_release hg 0 x9⟩

theorem good_l1 {l : List Order} {i : Int} {s t : Stake} {e : Int} (hk : Kept s t e) : sh_keep_StakeGood_l1 l i 0 s t = some (.inr (l, i, s, t)) := by
  have := iter_uptof (F := fun s : (List Order) × Int × Int × Stake × Stake => (T_keep_StakeGood_l1 s.1 s.2.1 s.2.2.1 s.2.2.2.1 s.2.2.2.2).run) 6 (fun j (_ : Unit) => (l, i, (j : Int), s, t)) (fun _ _ => True) (fun _ _ => .inr (l, i, s, t)) (by
      intro t _
      simp only [T_keep_StakeGood_l1]; rw [Tr.run_false (by rfl), Tr.run_leaf]) (by
      intro j _ hj _
      refine .inl ⟨(), ?_, trivial, rfl⟩
      obtain ⟨h1, h2⟩ := hk.2.2.2 j (by omega) (by omega)
      simp only [T_keep_StakeGood_l1]
      rw [Tr.run_true (by simp; omega), Tr.run_guard (by omega), Tr.run_guard (by intro _; exact ⟨by omega, trivial⟩), Tr.run_guard (by intro _; exact ⟨by omega, trivial⟩), Tr.run_guard (by intro _; exact ⟨by omega, trivial⟩), Tr.run_false (by
        rw [Bool.or_eq_false_iff, decide_eq_false_iff_not]
        refine ⟨?_, by omega⟩
        cases hd : s.Validators.Dead.get j
        · rfl
        · rw [h1 hd]; rfl), Tr.run_leaf, i64_nat (by omega)]) 0 () (by omega) trivial
  rw [sh_keep_StakeGood_l1]; exact this

theorem pl_StakeGood {l : List Order} (hN : ∀ o, o ∈ l → o.N ≤ 9223372036854775807) : sh_keep_StakeGood l = some true := by
  have key : sh_keep_StakeGood_l2 l 0 newS = some (.inr ()) := by
    have := iter_uptof (F := fun s : (List Order) × Int × Stake => (T_keep_StakeGood_l2 s.1 s.2.1 s.2.2).run) (min l.length 80) (fun i s => (l, (i : Int), s)) (fun _ s => GoodS s) (fun _ _ => .inr ()) (by
        intro s _
        simp only [T_keep_StakeGood_l2]
        rw [Tr.run_false (by simp only [Bool.and_eq_false_iff, decide_eq_false_iff_not]; omega), Tr.run_leaf]) (by
        intro i s hi hg
        obtain ⟨⟨t, e⟩, hr, hk⟩ := pl_follow hg (hN _ (getD_mem (l := l) (k := i) (by omega) default))
        refine .inl ⟨t, ?_, hk.1, rfl⟩
        have tt : totB t.Bank = 400000 := hk.1.1.2.2.2.2.2.2.2
        have ts : totB s.Bank = 400000 := hg.1.2.2.2.2.2.2.2
        have hbt := hk.2.2.1
        simp only at hbt
        simp only [T_keep_StakeGood_l2]
        rw [Int.toNat_natCast]
        simp only [hr, pl_stakeGood, pl_bankSum, tt, ts, hk.1, Option.isSome_some, Option.getD_some]
        rw [Tr.run_true (by simp; omega), Tr.run_guard ⟨by omega, by show (i : Int) < (l.length : Int); omega⟩, Tr.run_guard (by trivial), Tr.run_guard (by intro _; exact ⟨trivial, trivial⟩), Tr.run_guard (by intro _; exact ⟨trivial, trivial⟩), Tr.run_guard (by intro _; exact ⟨trivial, trivial⟩), Tr.run_false (by
          rw [Bool.or_eq_false_iff, Bool.or_eq_false_iff, Bool.or_eq_false_iff, decide_eq_false_iff_not]
          refine ⟨⟨⟨?_, by simp⟩, by simp⟩, by omega⟩
          by_cases he : e = 0
          · simp [he]
          · rw [show t = s from hk.2.1 he]; simp), Tr.run_inr (good_l1 hk), Tr.run_leaf, i64_nat (by omega)]) 0 newS (by omega) newS_good
    rw [sh_keep_StakeGood_l2]; exact this
  rw [sh_keep_StakeGood, T_keep_StakeGood, Tr.run_bind pl_keepstakes, Tr.run_false (by rfl), Tr.run_bind pl_stakeNew, Tr.run_inr key, Tr.run_leaf]

end Go.Proofs.Ytbpehnghffljiaa.Ab
