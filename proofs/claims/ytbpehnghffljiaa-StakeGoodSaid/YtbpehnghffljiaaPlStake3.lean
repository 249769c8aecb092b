/-
  Stakes, with no program in sight: Release, Pay, Slash, twice told, are the same.
-/
import Derived.Test.YtbpehnghffljiaaFStakeA
import Derived.Test.YtbpehnghffljiaaFRefB
import Derived.Test.YtbpehnghffljiaaPlStake2
namespace Go.Proofs.Ytbpehnghffljiaa.Ab
open Go Go.RowKit
set_option linter.unusedVariables false
set_option linter.unusedSimpArgs false

theorem getD_eq_at {α : Type} {l : List α} {i : Nat} (h : i < l.length) (d : α) : l.getD i d = l[i] := by rw [List.getD_eq_getElem?_getD, List.getElem?_eq_getElem h]; rfl
theorem set_self {α : Type} {l : List α} {i : Nat} (h : i < l.length) (d : α) : l.set i (l.getD i d) = l := by rw [getD_eq_at h]; exact List.set_getElem_self h

/-- A loop that goes through a list and changes each element in its place. -/
theorem loop_map {σ ρ τ α : Type} {F : σ → Option (σ ⊕ ρ)} (l : List α) (d : α) (mk : Nat → List α → τ → σ) (I : Nat → τ → Prop) (f : α → α) (g : τ → α → τ) (out : List α → τ → ρ)
    (hend : ∀ W t, W.length = l.length → I l.length t → F (mk l.length W t) = some (.inr (out W t)))
    (hstep : ∀ i W t, i < l.length → W.length = l.length → W.getD i d = l.getD i d → I i t → F (mk i W t) = some (.inl (mk (i + 1) (W.set i (f (l.getD i d))) (g t (l.getD i d)))) ∧ I (i + 1) (g t (l.getD i d))) (t : τ) (h0 : I 0 t) :
    iter F (mk 0 l t) = some (out (l.map f) (l.foldl g t)) := by
  have := iter_uptof (F := F) l.length (fun i (s : List α × τ) => mk i s.1 s.2) (fun i s => s.1 = (l.take i).map f ++ l.drop i ∧ I i s.2) (fun i s => out (l.map f) ((l.drop i).foldl g s.2)) (by
      rintro ⟨W, t⟩ ⟨h1, h2⟩
      simp only at h1 h2
      rw [hend W t (by rw [h1]; simp) h2, List.drop_length, h1, List.take_length, List.drop_length, List.append_nil]; rfl) (by
      rintro i ⟨W, t⟩ hi ⟨h1, h2⟩
      simp only at h1 h2
      have hs := drop_step (l := l) (k := i) hi d
      have hW : W.length = l.length := by rw [h1]; simp; omega
      have ht : l.take (i + 1) = l.take i ++ [l.getD i d] := by rw [List.take_succ_eq_append_getElem hi, getD_eq_at hi]
      have hlen : ((l.take i).map f).length = i := by simp; omega
      have hg : W.getD i d = l.getD i d := by
        rw [h1, List.getD_eq_getElem?_getD, List.getElem?_append_right (by omega), hlen, Nat.sub_self, hs]; rfl
      obtain ⟨k1, k2⟩ := hstep i W t hi hW hg h2
      refine .inl ⟨(W.set i (f (l.getD i d)), g t (l.getD i d)), k1, ⟨?_, k2⟩, ?_⟩
      · show W.set i _ = _
        rw [h1, List.set_append_right _ _ (by omega), hlen, Nat.sub_self, hs, List.set_cons_zero, ht, List.map_append, List.append_assoc]; rfl
      · rw [hs, List.foldl_cons]) 0 (l, t) (Nat.zero_le _) ⟨by simp, h0⟩
  simpa using this

/-! Release. -/

def relW (c h : Int) (w : Wait) : Wait := { w with h0 := if c = 0 ∧ w.h0 ≤ h then 0 else w.h0, h1 := if c = 1 ∧ w.h1 ≤ h then 0 else w.h1 }
def releaseS (s : Stake) (c h : Int) : Stake := { s with Waits := s.Waits.map (relW c h) }
theorem relW_out {c h : Int} {w : Wait} (hc : c < 0 ∨ 2 ≤ c) : relW c h w = w := by unfold relW; rw [if_neg (by omega), if_neg (by omega)]
theorem releaseS_out {s : Stake} {c h : Int} (hc : c < 0 ∨ 2 ≤ c) : releaseS s c h = s := by
  unfold releaseS
  have : s.Waits.map (relW c h) = s.Waits := by
    rw [show relW c h = id from funext fun w => relW_out hc, List.map_id]
  rw [this]

theorem pl_Release {s : Stake} {c h : Int} (hl : s.Waits.length * 64 ≤ 140737488351232) : sh_stake_Release s c h = some (releaseS s c h) := by
  rw [sh_stake_Release, T_stake_Release]
  by_cases hc : c < 0 ∨ 2 ≤ c
  · rw [Tr.run_true (by simpa using hc), Tr.run_leaf, releaseS_out hc]
  · rw [Tr.run_false (by simp only [Bool.or_eq_false_iff, decide_eq_false_iff_not]; omega), Tr.run_bind (pl_cloneW hl)]
    have key : ∀ z : Stake, sh_stake_Release_l1 c h s.Waits.length 0 { s with Waits := s.Waits } z = some (releaseS s c h, z) := by
      intro z
      rw [sh_stake_Release_l1]
      refine loop_map (F := fun s : Int × Int × Int × Int × Stake × Stake => (T_stake_Release_l1 s.1 s.2.1 s.2.2.1 s.2.2.2.1 s.2.2.2.2.1 s.2.2.2.2.2).run) s.Waits default
        (fun i W (_ : Unit) => (c, h, (s.Waits.length : Int), (i : Int), { s with Waits := W }, z)) (fun _ _ => True) (relW c h) (fun t _ => t) (fun W _ => ({ s with Waits := W }, z)) ?_ ?_ () trivial
      · intro W t hW _
        simp only [T_stake_Release_l1]; rw [Tr.run_false (by simp), Tr.run_leaf]
      · intro i W t hi hW hg _
        refine ⟨?_, trivial⟩
        simp only [T_stake_Release_l1]
        rw [Int.toNat_natCast, hg]
        obtain ⟨w, hw⟩ : ∃ w, w = s.Waits.getD i default := ⟨_, rfl⟩
        rw [← hw] at hg ⊢
        rw [Tr.run_true (by simpa using hi), Tr.run_guard ⟨by omega, by rw [sl_len_waits]; omega⟩, Tr.run_guard (by omega)]
        by_cases hp : A2.get ⟨w.h0, w.h1⟩ c ≤ h
        · rw [Tr.run_true (by simpa using hp), Tr.run_guard ⟨by omega, by rw [sl_len_waits]; omega⟩, Tr.run_guard (by omega), Tr.run_leaf, i64_nat (by omega)]
          congr 4
          unfold relW
          unfold A2.get at hp
          obtain rfl | rfl : c = 0 ∨ c = 1 := by omega
          · simp at hp; simp [hp]
          · simp at hp; simp [hp]
        · have e : relW c h w = w := by
            unfold relW
            unfold A2.get at hp
            obtain rfl | rfl : c = 0 ∨ c = 1 := by omega
            · simp at hp
              rw [if_neg (by omega), if_neg (by omega)]
            · simp at hp
              rw [if_neg (by omega), if_neg (by omega)]
          rw [Tr.run_false (by simpa using hp), Tr.run_leaf, i64_nat (by omega), e, ← hg, set_self (by omega)]
    rw [Tr.run_bind (key _), Tr.run_leaf]

theorem pl_refRelease {s : Stake} {c h : Int} (hl : s.Waits.length * 64 ≤ 140737488351232) : sh_ref_Release s c h = some (releaseS s c h) := by
  rw [sh_ref_Release, T_ref_Release, Tr.run_bind (pl_copyS_o hl)]
  have inner : ∀ (W : List Wait) (i : Nat) (n : Int) (z : Stake), i < W.length → W.length = s.Waits.length →
      sh_ref_Release_l1 c h i n i (⟨(W.getD i default).h0, (W.getD i default).h1⟩ : A2 Int) 0 z { s with Waits := W } = some (c, h, n, (i : Int), z, { s with Waits := W.set i (relW c h (W.getD i default)) }) := by
    intro W i n z hi hlen
    rw [sh_ref_Release_l1]
    obtain ⟨w, hw⟩ : ∃ w, w = W.getD i default := ⟨_, rfl⟩
    rw [← hw]
    have e0 : ∀ V : List Wait, V.length = W.length → V.getD i default = w → (fun s : Int × Int × Int × Int × Int × (A2 Int) × Int × Stake × Stake => (T_ref_Release_l1 s.1 s.2.1 s.2.2.1 s.2.2.2.1 s.2.2.2.2.1 s.2.2.2.2.2.1 s.2.2.2.2.2.2.1 s.2.2.2.2.2.2.2.1 s.2.2.2.2.2.2.2.2).run) (c, h, (i : Int), n, (i : Int), (⟨w.h0, w.h1⟩ : A2 Int), 0, z, { s with Waits := V }) =
        some (.inl (c, h, (i : Int), n, (i : Int), (⟨w.h0, w.h1⟩ : A2 Int), 1, z, { s with Waits := V.set i { w with h0 := if c = 0 ∧ w.h0 ≤ h then 0 else w.h0 } })) := by
      intro V hV hg
      simp only [T_ref_Release_l1]
      rw [Int.toNat_natCast, hg, Tr.run_true (by rfl), Tr.run_guard (by omega)]
      by_cases hp : c = 0 ∧ w.h0 ≤ h
      · rw [Tr.run_true (by rw [hp.1]; simpa [A2.get] using hp.2), Tr.run_guard ⟨by omega, by rw [sl_len_waits]; omega⟩, Tr.run_guard (by omega), Tr.run_leaf, if_pos hp]
        rfl
      · rw [Tr.run_false (by rw [Bool.eq_false_iff]; intro k; apply hp; simp [A2.get] at k; omega), Tr.run_leaf, if_neg hp]
        have e : ({ w with h0 := w.h0 } : Wait) = w := rfl
        rw [e, ← hg, set_self (by omega)]
        rfl
    have e1 : ∀ V : List Wait, ∀ u : Wait, V.length = W.length → V.getD i default = u → u.h1 = w.h1 → (fun s : Int × Int × Int × Int × Int × (A2 Int) × Int × Stake × Stake => (T_ref_Release_l1 s.1 s.2.1 s.2.2.1 s.2.2.2.1 s.2.2.2.2.1 s.2.2.2.2.2.1 s.2.2.2.2.2.2.1 s.2.2.2.2.2.2.2.1 s.2.2.2.2.2.2.2.2).run) (c, h, (i : Int), n, (i : Int), (⟨w.h0, w.h1⟩ : A2 Int), 1, z, { s with Waits := V }) =
        some (.inl (c, h, (i : Int), n, (i : Int), (⟨w.h0, w.h1⟩ : A2 Int), 2, z, { s with Waits := V.set i { u with h1 := if c = 1 ∧ w.h1 ≤ h then 0 else w.h1 } })) := by
      intro V u hV hg hu
      simp only [T_ref_Release_l1]
      rw [Int.toNat_natCast, hg, Tr.run_true (by rfl), Tr.run_guard (by omega)]
      by_cases hp : c = 1 ∧ w.h1 ≤ h
      · rw [Tr.run_true (by rw [hp.1]; simpa [A2.get] using hp.2), Tr.run_guard ⟨by omega, by rw [sl_len_waits]; omega⟩, Tr.run_guard (by omega), Tr.run_leaf, if_pos hp]
        rfl
      · rw [Tr.run_false (by rw [Bool.eq_false_iff]; intro k; apply hp; simp [A2.get] at k; omega), Tr.run_leaf, if_neg hp]
        have e : ({ u with h1 := w.h1 } : Wait) = u := by rw [← hu]
        rw [e, ← hg, set_self (by omega)]
        rfl
    have e2 : ∀ V : List Wait, (fun s : Int × Int × Int × Int × Int × (A2 Int) × Int × Stake × Stake => (T_ref_Release_l1 s.1 s.2.1 s.2.2.1 s.2.2.2.1 s.2.2.2.2.1 s.2.2.2.2.2.1 s.2.2.2.2.2.2.1 s.2.2.2.2.2.2.2.1 s.2.2.2.2.2.2.2.2).run) (c, h, (i : Int), n, (i : Int), (⟨w.h0, w.h1⟩ : A2 Int), 2, z, { s with Waits := V }) = some (.inr (c, h, n, (i : Int), z, { s with Waits := V })) := by
      intro V
      simp only [T_ref_Release_l1]
      rw [Tr.run_false (by rfl), Tr.run_leaf]
    refine (iter_inl0 (e0 W rfl hw.symm)).trans ((iter_inl0 (e1 _ { w with h0 := if c = 0 ∧ w.h0 ≤ h then 0 else w.h0 } (by rw [List.length_set]) ?_ rfl)).trans ((iter_inr0 (e2 _)).trans ?_))
    · rw [getD_eq_at (by rw [List.length_set]; exact hi), List.getElem_set_self]
    · rw [List.set_set]; rfl
  have key : ∀ z : Stake, sh_ref_Release_l2 c h s.Waits.length 0 z s = some (z, releaseS s c h) := by
    intro z
    rw [sh_ref_Release_l2]
    refine loop_map (F := fun s : Int × Int × Int × Int × Stake × Stake => (T_ref_Release_l2 s.1 s.2.1 s.2.2.1 s.2.2.2.1 s.2.2.2.2.1 s.2.2.2.2.2).run) s.Waits default
      (fun i W (_ : Unit) => (c, h, (s.Waits.length : Int), (i : Int), z, { s with Waits := W })) (fun _ _ => True) (relW c h) (fun t _ => t) (fun W _ => (z, { s with Waits := W })) ?_ ?_ () trivial
    · intro W t hW _
      simp only [T_ref_Release_l2]; rw [Tr.run_false (by simp), Tr.run_leaf]
    · intro i W t hi hW hg _
      refine ⟨?_, trivial⟩
      simp only [T_ref_Release_l2]
      rw [Int.toNat_natCast, Tr.run_true (by simpa using hi), Tr.run_guard ⟨by omega, by rw [sl_len_waits]; omega⟩, Tr.run_bind (inner W i _ z (by omega) hW), Tr.run_leaf]
      simp only []
      rw [hg, i64_nat (by omega)]
  rw [Tr.run_bind (key _), Tr.run_leaf]

/-! Pay. -/

def dueW (time : Int) (w : Wait) : Bool := (decide (w.Due ≤ time) && w.h0 == 0) && w.h1 == 0
def payF (time : Int) (t : Bank × List Wait × List Int) (w : Wait) : Bank × List Wait × List Int :=
  if dueW time w = true then ((payB t.1 w.D w.Amount).1, t.2.1, t.2.2 ++ [w.Number]) else (t.1, t.2.1 ++ [w], t.2.2)
def payS (s : Stake) (time : Int) : Stake × List Int × Int :=
  if ¬ GoodS s then (s, [], 2) else ({ s with Bank := (s.Waits.foldl (payF time) (s.Bank, [], [])).1, Waits := (s.Waits.foldl (payF time) (s.Bank, [], [])).2.1 }, (s.Waits.foldl (payF time) (s.Bank, [], [])).2.2, 0)

theorem payB_ok {b : Bank} {d n : Int} (hg : GoodB b) (hd : 0 ≤ d ∧ d < 4) (hn : inA n) (hw : n ≤ b.Waiting) : (payB b d n).2 = 0 ∧ GoodB (payB b d n).1 ∧ (payB b d n).1.Waiting = b.Waiting - n ∧ (payB b d n).1.Bonded = b.Bonded ∧ (payB b d n).1.Burnt = b.Burnt := by
  have e : payB b d n = moveB b 5 d n := by unfold payB; rw [if_neg (by omega)]
  rw [e, moveB_eq (f := 5) (t := d) hg hn.1 hn.2 hw]
  refine ⟨rfl, (movedB_good (.inr (.inr (.inl ⟨rfl, by omega⟩))) hg hn.1 hw).1, ?_⟩
  obtain rfl | rfl | rfl | rfl : d = 0 ∨ d = 1 ∨ d = 2 ∨ d = 3 := by omega
  all_goals simp [movedB, bkA, plA, A7.get, A7.set]

theorem goodWs_drop {next : Int} : ∀ {l : List Wait} {p : Int} (i : Nat), GoodWs next p l → ∃ q, GoodWs next q (l.drop i)
  | l, p, 0, h => ⟨p, h⟩
  | [], p, _ + 1, h => ⟨p, trivial⟩
  | w :: l, p, i + 1, h => goodWs_drop i h.2
theorem goodWs_sum {next : Int} : ∀ {l : List Wait} {p : Int}, GoodWs next p l → 0 ≤ sumW l
  | [], _, _ => Int.le_refl 0
  | w :: l, p, h => by
    have h1 := goodWs_sum h.2
    have h2 := h.1.2.2.2.2.2.2.1
    unfold inA at h2
    simp only [sumW]; omega

/-- What is true while what is due is paid. -/
def PayI (s : Stake) (i : Nat) (t : Bank × List Wait × List Int) : Prop :=
  GoodB t.1 ∧ sumW (s.Waits.drop i) ≤ t.1.Waiting ∧ t.2.1.length ≤ i ∧ t.2.2.length ≤ i ∧ t.1.Bonded = s.Bank.Bonded ∧ t.1.Burnt = s.Bank.Burnt

theorem payI_step {s : Stake} (hg : GoodS s) {time : Int} {i : Nat} (hi : i < s.Waits.length) {t : Bank × List Wait × List Int} (h : PayI s i t) :
    PayI s (i + 1) (payF time t (s.Waits.getD i default)) ∧ (payB t.1 (s.Waits.getD i default).D (s.Waits.getD i default).Amount).2 = 0 := by
  obtain ⟨h1, h2, h3, h4, h5, h6⟩ := h
  have hs := drop_step (l := s.Waits) (k := i) hi default
  obtain ⟨q, hq⟩ := goodWs_drop i hg.2.2.2.1
  rw [hs] at hq h2
  obtain ⟨w, hw⟩ : ∃ w, w = s.Waits.getD i default := ⟨_, rfl⟩
  rw [← hw] at hq h2 ⊢
  have hn := goodWs_sum hq.2
  obtain ⟨_, _, d0, d1, _, _, ha, _, _⟩ := hq.1
  simp only [sumW] at h2
  obtain ⟨p1, p2, p3, p4, p5⟩ := payB_ok h1 ⟨d0, d1⟩ ha (by omega)
  refine ⟨?_, p1⟩
  unfold payF
  by_cases hd : dueW time w = true
  · rw [if_pos hd]
    exact ⟨p2, by show _ ≤ (payB t.1 w.D w.Amount).1.Waiting; omega, by show t.2.1.length ≤ _; omega, by show (t.2.2 ++ [w.Number]).length ≤ _; simp; omega, p4.trans h5, p5.trans h6⟩
  · rw [if_neg hd]
    unfold inA at ha
    exact ⟨h1, by show _ ≤ t.1.Waiting; omega, by show (t.2.1 ++ [w]).length ≤ _; simp; omega, by show t.2.2.length ≤ _; omega, h5, h6⟩

theorem payI_start {s : Stake} (hg : GoodS s) : PayI s 0 (s.Bank, [], []) := ⟨hg.1, by rw [List.drop_zero, hg.2.2.2.2.2.1]; exact Int.le_refl _, by simp, by simp, rfl, rfl⟩

theorem payI_end {s : Stake} (hg : GoodS s) (time : Int) : PayI s s.Waits.length (s.Waits.foldl (payF time) (s.Bank, [], [])) := by
  have key : ∀ n, n ≤ s.Waits.length → PayI s n ((s.Waits.take n).foldl (payF time) (s.Bank, [], [])) := by
    intro n
    induction n with
    | zero => intro _; exact payI_start hg
    | succ n ih =>
      intro hn
      rw [List.take_succ_eq_append_getElem (by omega), List.foldl_append, List.foldl_cons, List.foldl_nil, ← getD_eq_at (by omega) default]
      exact (payI_step hg (by omega) (ih (by omega))).1
  have := key s.Waits.length (Nat.le_refl _)
  rwa [List.take_length] at this

theorem pl_Pay {s : Stake} {time : Int} : sh_stake_Pay s time = some (payS s time) := by
  rw [sh_stake_Pay, T_stake_Pay, Tr.run_bind (pl_stakeGood s)]
  unfold payS
  by_cases hg : GoodS s
  · rw [if_neg (by simpa using hg), Tr.run_false (by simpa using hg)]
    have h60 := hg.2.1.2.2
    have key : ∀ z : Stake, sh_stake_Pay_l1 time s.Waits s.Waits.length 0 s z [] [] = some (.inr ({ s with Bank := (s.Waits.foldl (payF time) (s.Bank, [], [])).1 }, z, (s.Waits.foldl (payF time) (s.Bank, [], [])).2.1, (s.Waits.foldl (payF time) (s.Bank, [], [])).2.2)) := by
      intro z
      rw [sh_stake_Pay_l1]
      refine loop_fold (F := fun s : Int × (List Wait) × Int × Int × Stake × Stake × (List Wait) × (List Int) => (T_stake_Pay_l1 s.1 s.2.1 s.2.2.1 s.2.2.2.1 s.2.2.2.2.1 s.2.2.2.2.2.1 s.2.2.2.2.2.2.1 s.2.2.2.2.2.2.2).run) s.Waits default
        (fun i t => (time, s.Waits, (s.Waits.length : Int), (i : Int), { s with Bank := t.1 }, z, t.2.1, t.2.2)) (PayI s) (payF time) (fun t => .inr ({ s with Bank := t.1 }, z, t.2.1, t.2.2)) ?_ ?_ (s.Bank, [], []) (payI_start hg)
      · intro t _
        simp only [T_stake_Pay_l1]; rw [Tr.run_false (by simp), Tr.run_leaf]
      · intro i t hi hI
        obtain ⟨k1, k2⟩ := payI_step hg (time := time) hi hI
        refine ⟨?_, k1⟩
        obtain ⟨h1, h2, h3, h4, h5, h6⟩ := hI
        simp only [T_stake_Pay_l1]
        rw [Int.toNat_natCast]
        obtain ⟨w, hw⟩ : ∃ w, w = s.Waits.getD i default := ⟨_, rfl⟩
        rw [← hw] at k2 ⊢
        have hc : ((decide (w.Due > time)) || (!((w.h0 == 0) && ((w.h1 == 0) && true)))) = !dueW time w := by
          unfold dueW
          rw [Bool.eq_iff_iff]
          simp
          omega
        rw [Tr.run_true (by simpa using hi), Tr.run_guard ⟨by omega, by rw [sl_len_waits]; omega⟩]
        unfold payF
        by_cases hd : dueW time w = true
        · rw [Tr.run_false (by rw [hc, hd]; rfl), Tr.run_bind pl_PayB, Tr.run_false (by simpa using k2), Tr.run_guard (by simp only [sl_len_ints, List.length_singleton]; omega), Tr.run_leaf, if_pos hd, i64_nat (by omega)]
        · rw [Tr.run_true (by rw [hc]; simpa using hd), Tr.run_guard (by simp only [sl_len_waits, List.length_singleton]; omega), Tr.run_leaf, if_neg hd, i64_nat (by omega)]
    rw [Tr.run_inr (key _), Tr.run_leaf]
  · rw [if_pos hg, Tr.run_true (by simpa using hg), Tr.run_leaf]

theorem pl_PayAll {s : Stake} {time : Int} : sh_ref_PayAll s time = some (payS s time) := by
  rw [sh_ref_PayAll, T_ref_PayAll, Tr.run_bind (pl_refstakeGood s)]
  unfold payS
  by_cases hg : GoodS s
  · rw [if_neg (by simpa using hg), Tr.run_false (by simpa using hg), Tr.run_bind (pl_copyS hg.fit)]
    have h60 := hg.2.1.2.2
    have key : ∀ z : Stake, sh_ref_PayAll_l1 time s.Waits s.Waits.length 0 z { s with Waits := [] } [] = some (z, { s with Bank := (s.Waits.foldl (payF time) (s.Bank, [], [])).1, Waits := (s.Waits.foldl (payF time) (s.Bank, [], [])).2.1 }, (s.Waits.foldl (payF time) (s.Bank, [], [])).2.2) := by
      intro z
      rw [sh_ref_PayAll_l1]
      refine loop_fold (F := fun s : Int × (List Wait) × Int × Int × Stake × Stake × (List Int) => (T_ref_PayAll_l1 s.1 s.2.1 s.2.2.1 s.2.2.2.1 s.2.2.2.2.1 s.2.2.2.2.2.1 s.2.2.2.2.2.2).run) s.Waits default
        (fun i t => (time, s.Waits, (s.Waits.length : Int), (i : Int), z, { s with Bank := t.1, Waits := t.2.1 }, t.2.2)) (PayI s) (payF time) (fun t => (z, { s with Bank := t.1, Waits := t.2.1 }, t.2.2)) ?_ ?_ (s.Bank, [], []) (payI_start hg)
      · intro t _
        simp only [T_ref_PayAll_l1]; rw [Tr.run_false (by simp), Tr.run_leaf]
      · intro i t hi hI
        obtain ⟨k1, k2⟩ := payI_step hg (time := time) hi hI
        refine ⟨?_, k1⟩
        obtain ⟨h1, h2, h3, h4, h5, h6⟩ := hI
        simp only [T_ref_PayAll_l1]
        rw [Int.toNat_natCast]
        obtain ⟨w, hw⟩ : ∃ w, w = s.Waits.getD i default := ⟨_, rfl⟩
        rw [← hw] at k2 ⊢
        rw [Tr.run_true (by simpa using hi), Tr.run_guard ⟨by omega, by rw [sl_len_waits]; omega⟩]
        unfold payF
        by_cases hd : dueW time w = true
        · rw [Tr.run_true (b := (decide (w.Due ≤ time) && w.h0 == 0) && w.h1 == 0) hd, Tr.run_bind pl_refPay, Tr.run_guard (by simp only [sl_len_ints, List.length_singleton]; omega), Tr.run_leaf, if_pos hd, i64_nat (by omega)]
        · rw [Tr.run_false (by unfold dueW at hd; simpa using hd), Tr.run_guard (by simp only [sl_len_waits, List.length_singleton]; omega), Tr.run_leaf, if_neg hd, i64_nat (by omega)]
    rw [Tr.run_bind (key _), Tr.run_leaf]
  · rw [if_pos hg, Tr.run_true (by simpa using hg), Tr.run_leaf]

/-! Slash. -/

def hitW (v h : Int) (w : Wait) : Bool := w.V == v && decide (w.Height ≥ h)
def slN (v h f : Int) (w : Wait) : Int := if hitW v h w = true then (partP w.Amount f).1 else 0
def slW (v h f : Int) (w : Wait) : Wait := if hitW v h w = true then { w with Amount := w.Amount - (partP w.Amount f).1 } else w
def sumN (v h f : Int) (l : List Wait) : Int := l.foldl (fun t w => t + slN v h f w) 0
def bondedN (s : Stake) (v f : Int) : Int := (partP (s.Validators.Tokens.get v) f).1
def slashS (s : Stake) (v h f : Int) : Stake × Int × Int :=
  if knownS s 0 v ≠ 0 then (s, 0, knownS s 0 v) else if f < 0 ∨ 1000 < f then (s, 0, 2)
  else (⟨(burnB s.Bank (bondedN s v f) (sumN v h f s.Waits)).1, { s.Validators with Tokens := s.Validators.Tokens.set v (s.Validators.Tokens.get v - bondedN s v f), Lost := s.Validators.Lost.set v (s.Validators.Lost.get v + (bondedN s v f + sumN v h f s.Waits)) }, s.Shares, s.Waits.map (slW v h f), s.Next⟩,
    bondedN s v f + sumN v h f s.Waits, 0)

theorem part_bound {n f : Int} (hn : inA n) (hf : 0 ≤ f ∧ f ≤ 1000) : (partP n f).2 = 0 ∧ 0 ≤ (partP n f).1 ∧ (partP n f).1 ≤ n := by
  obtain ⟨_, h2, h3⟩ := part_eq hn.1 hn.2 hf.1 hf.2
  have e : partP n f = (n * f / 1000, 0) := by
    unfold partP
    rw [if_neg (by omega)]
  rw [e]
  generalize n * f = x at h2 h3
  exact ⟨rfl, by show 0 ≤ x / 1000; omega, by show x / 1000 ≤ n; omega⟩

theorem slN_bound {v h f : Int} {w : Wait} (hw : inA w.Amount) (hf : 0 ≤ f ∧ f ≤ 1000) : 0 ≤ slN v h f w ∧ slN v h f w ≤ w.Amount := by
  unfold slN
  by_cases hh : hitW v h w = true
  · rw [if_pos hh]; exact (part_bound hw hf).2
  · rw [if_neg hh]; unfold inA at hw; omega

/-- What is true while what waits is gone through. -/
def SlI (s : Stake) (i : Nat) (t : Int) : Prop := 0 ≤ t ∧ t + sumW (s.Waits.drop i) ≤ s.Bank.Waiting

theorem slI_step {s : Stake} (hg : GoodS s) {v h f : Int} (hf : 0 ≤ f ∧ f ≤ 1000) {i : Nat} (hi : i < s.Waits.length) {t : Int} (hI : SlI s i t) :
    SlI s (i + 1) (t + slN v h f (s.Waits.getD i default)) ∧ inA (s.Waits.getD i default).Amount ∧ t + slN v h f (s.Waits.getD i default) ≤ 400000 := by
  obtain ⟨h1, h2⟩ := hI
  have hs := drop_step (l := s.Waits) (k := i) hi default
  obtain ⟨q, hq⟩ := goodWs_drop i hg.2.2.2.1
  rw [hs] at hq h2
  obtain ⟨w, hw⟩ : ∃ w, w = s.Waits.getD i default := ⟨_, rfl⟩
  rw [← hw] at hq h2 ⊢
  have hn := goodWs_sum hq.2
  have ha := hq.1.2.2.2.2.2.2.1
  have hb := slN_bound (v := v) (h := h) ha hf
  have hw4 : okN s.Bank.Waiting := hg.1.2.2.2.2.2.1
  unfold okN at hw4
  simp only [sumW] at h2
  exact ⟨⟨by omega, by omega⟩, ha, by omega⟩

theorem slI_start {s : Stake} (hg : GoodS s) : SlI s 0 0 := ⟨by omega, by rw [List.drop_zero, hg.2.2.2.2.2.1]; omega⟩
theorem slI_end {s : Stake} (hg : GoodS s) {v h f : Int} (hf : 0 ≤ f ∧ f ≤ 1000) : 0 ≤ sumN v h f s.Waits ∧ sumN v h f s.Waits ≤ s.Bank.Waiting := by
  have key : ∀ n, n ≤ s.Waits.length → SlI s n ((s.Waits.take n).foldl (fun t w => t + slN v h f w) 0) := by
    intro n
    induction n with
    | zero => intro _; exact slI_start hg
    | succ n ih =>
      intro hn
      rw [List.take_succ_eq_append_getElem (by omega), List.foldl_append, List.foldl_cons, List.foldl_nil, ← getD_eq_at (by omega) default]
      exact (slI_step hg hf (by omega) (ih (by omega))).1
  have := key s.Waits.length (Nat.le_refl _)
  rw [List.take_length] at this
  obtain ⟨h1, h2⟩ := this
  rw [List.drop_length] at h2
  simp only [sumW, Int.add_zero] at h2
  exact ⟨h1, h2⟩

theorem tokens_le {s : Stake} (hg : GoodS s) {v : Int} (hv : 0 ≤ v ∧ v < 6) : s.Validators.Tokens.get v ≤ s.Bank.Bonded ∧ s.Validators.Lost.get v ≤ s.Bank.Burnt := by
  have e1 := hg.2.2.2.2.1
  have e2 := hg.2.2.2.2.2.2
  have e : ∀ i : Int, 0 ≤ i → i < 6 → (0 ≤ s.Validators.Tokens.get i ∧ s.Validators.Tokens.get i ≤ 1125899906842624) ∧ (0 ≤ s.Validators.Lost.get i ∧ s.Validators.Lost.get i ≤ 1125899906842624) := fun i h0 h1 => by
    obtain ⟨⟨k1, _, k3, _⟩, _⟩ := hg.at (v := i) ⟨h0, h1⟩
    exact ⟨k1, k3⟩
  have t0 : (0 ≤ s.Validators.Tokens.x0 ∧ s.Validators.Tokens.x0 ≤ 1125899906842624) ∧ (0 ≤ s.Validators.Lost.x0 ∧ s.Validators.Lost.x0 ≤ 1125899906842624) := e 0 (by omega) (by omega)
  have t1 : (0 ≤ s.Validators.Tokens.x1 ∧ s.Validators.Tokens.x1 ≤ 1125899906842624) ∧ (0 ≤ s.Validators.Lost.x1 ∧ s.Validators.Lost.x1 ≤ 1125899906842624) := e 1 (by omega) (by omega)
  have t2 : (0 ≤ s.Validators.Tokens.x2 ∧ s.Validators.Tokens.x2 ≤ 1125899906842624) ∧ (0 ≤ s.Validators.Lost.x2 ∧ s.Validators.Lost.x2 ≤ 1125899906842624) := e 2 (by omega) (by omega)
  have t3 : (0 ≤ s.Validators.Tokens.x3 ∧ s.Validators.Tokens.x3 ≤ 1125899906842624) ∧ (0 ≤ s.Validators.Lost.x3 ∧ s.Validators.Lost.x3 ≤ 1125899906842624) := e 3 (by omega) (by omega)
  have t4 : (0 ≤ s.Validators.Tokens.x4 ∧ s.Validators.Tokens.x4 ≤ 1125899906842624) ∧ (0 ≤ s.Validators.Lost.x4 ∧ s.Validators.Lost.x4 ≤ 1125899906842624) := e 4 (by omega) (by omega)
  have t5 : (0 ≤ s.Validators.Tokens.x5 ∧ s.Validators.Tokens.x5 ≤ 1125899906842624) ∧ (0 ≤ s.Validators.Lost.x5 ∧ s.Validators.Lost.x5 ≤ 1125899906842624) := e 5 (by omega) (by omega)
  unfold sum6 at e1 e2
  obtain rfl | rfl | rfl | rfl | rfl | rfl : v = 0 ∨ v = 1 ∨ v = 2 ∨ v = 3 ∨ v = 4 ∨ v = 5 := by omega
  · show s.Validators.Tokens.x0 ≤ _ ∧ s.Validators.Lost.x0 ≤ _; omega
  · show s.Validators.Tokens.x1 ≤ _ ∧ s.Validators.Lost.x1 ≤ _; omega
  · show s.Validators.Tokens.x2 ≤ _ ∧ s.Validators.Lost.x2 ≤ _; omega
  · show s.Validators.Tokens.x3 ≤ _ ∧ s.Validators.Lost.x3 ≤ _; omega
  · show s.Validators.Tokens.x4 ≤ _ ∧ s.Validators.Lost.x4 ≤ _; omega
  · show s.Validators.Tokens.x5 ≤ _ ∧ s.Validators.Lost.x5 ≤ _; omega

theorem burnB_ok {b : Bank} {x y : Int} (hg : GoodB b) (h0 : 0 ≤ x) (h1 : x ≤ b.Bonded) (h2 : 0 ≤ y) (h3 : y ≤ b.Waiting) :
    burnB b x y = (⟨b.Free, b.Bonded - x, b.Waiting - y, b.Burnt + x + y⟩, 0) ∧ GoodB (burnB b x y).1 := by
  have p1 : okN b.Bonded := hg.2.2.2.2.1
  have p2 : okN b.Waiting := hg.2.2.2.2.2.1
  unfold okN at p1 p2
  have e1 := moveB_eq (f := 4) (t := 6) (n := x) hg h0 (by omega) h1
  have g1 := (movedB_good (f := 4) (t := 6) (n := x) (.inr (.inr (.inr (.inl ⟨rfl, rfl⟩)))) hg h0 h1).1
  have e3 : (plA (movedB b 4 6 x)).get 5 = b.Waiting := by simp [movedB, bkA, plA, A7.get, A7.set]
  have e2 := moveB_eq (f := 5) (t := 6) (n := y) g1 h2 (by omega) (by rw [e3]; exact h3)
  have g2 := (movedB_good (f := 5) (t := 6) (n := y) (.inr (.inr (.inr (.inr ⟨rfl, rfl⟩)))) g1 h2 (by rw [e3]; exact h3)).1
  have e : burnB b x y = (movedB (movedB b 4 6 x) 5 6 y, 0) := by
    unfold burnB
    rw [e1]
    simp only [e2]
    rw [if_neg (by simp), if_neg (by simp)]
  rw [e]
  refine ⟨?_, g2⟩
  simp [movedB, bkA, plA, A7.get, A7.set]

theorem pl_Slash {s : Stake} {v h f : Int} : sh_stake_Slash s v h f = some (slashS s v h f) := by
  rw [sh_stake_Slash, T_stake_Slash, Tr.run_bind (pl_known _ _ _)]
  unfold slashS
  by_cases h0 : knownS s 0 v = 0
  · obtain ⟨hg, hd, hv⟩ := known_ok h0
    obtain ⟨⟨hT, hS, hL, h4, h5⟩, _, _⟩ := hg.at hv
    rw [if_neg (by simpa using h0), Tr.run_false (by simpa using h0), Tr.run_guard hv, Tr.run_bind pl_Part]
    by_cases hf : f < 0 ∨ 1000 < f
    · have e : partP (s.Validators.Tokens.get v) f = (0, 2) := by unfold partP; rw [if_pos (by omega)]
      rw [if_pos hf, e, Tr.run_true (by rfl), Tr.run_leaf]
    · have hf' : 0 ≤ f ∧ f ≤ 1000 := by omega
      obtain ⟨b1, b2, b3⟩ := part_bound hT hf'
      rw [if_neg hf, Tr.run_false (by simpa using b1), Tr.run_bind (pl_cloneW hg.fit)]
      have key : ∀ z : Stake, sh_stake_Slash_l1 v h f v (partP (s.Validators.Tokens.get v) f).1 0 s.Waits.length 0 s z s.Waits = some (v, (partP (s.Validators.Tokens.get v) f).1, sumN v h f s.Waits, s, z, s.Waits.map (slW v h f)) := by
        intro z
        rw [sh_stake_Slash_l1]
        refine loop_map (F := fun s : Int × Int × Int × Int × Int × Int × Int × Int × Stake × Stake × (List Wait) => (T_stake_Slash_l1 s.1 s.2.1 s.2.2.1 s.2.2.2.1 s.2.2.2.2.1 s.2.2.2.2.2.1 s.2.2.2.2.2.2.1 s.2.2.2.2.2.2.2.1 s.2.2.2.2.2.2.2.2.1 s.2.2.2.2.2.2.2.2.2.1 s.2.2.2.2.2.2.2.2.2.2).run) s.Waits default
          (fun i W t => (v, h, f, v, (partP (s.Validators.Tokens.get v) f).1, t, (s.Waits.length : Int), (i : Int), s, z, W)) (SlI s) (slW v h f) (fun t w => t + slN v h f w) (fun W t => (v, (partP (s.Validators.Tokens.get v) f).1, t, s, z, W)) ?_ ?_ 0 (slI_start hg)
        · intro W t hW _
          simp only [T_stake_Slash_l1]; rw [Tr.run_false (by simp), Tr.run_leaf]
        · intro i W t hi hW hgi hI
          have h60 := hg.2.1.2.2
          obtain ⟨k1, k2, k3⟩ := slI_step hg (v := v) (h := h) hf' hi hI
          refine ⟨?_, k1⟩
          have ht := hI.1
          simp only [T_stake_Slash_l1]
          rw [Int.toNat_natCast, hgi]
          obtain ⟨w, hw⟩ : ∃ w, w = s.Waits.getD i default := ⟨_, rfl⟩
          rw [← hw] at k2 k3 hgi ⊢
          rw [Tr.run_true (by simpa using hi), Tr.run_guard ⟨by omega, by rw [sl_len_waits]; omega⟩]
          unfold slN at k3
          unfold slN slW
          by_cases hh : hitW v h w = true
          · obtain ⟨c1, c2, c3⟩ := part_bound k2 hf'
            unfold inA at k2
            rw [if_pos hh] at k3
            rw [Tr.run_true (b := w.V == v && decide (w.Height ≥ h)) hh, Tr.run_bind pl_Part, Tr.run_leaf, if_pos hh, if_pos hh, i64_nat (by omega), i64_in (x := t + _) (by omega) (by omega), i64_in (x := w.Amount - _) (by omega) (by omega)]
          · rw [Tr.run_false (by unfold hitW at hh; simpa using hh), Tr.run_leaf, if_neg hh, if_neg hh, i64_nat (by omega), ← hgi, set_self (by omega), Int.add_zero]
      have hsum := slI_end hg (v := v) (h := h) hf'
      have htok := tokens_le hg hv
      have o1 : okN s.Bank.Waiting := hg.1.2.2.2.2.2.1
      have o2 : okN s.Bank.Bonded := hg.1.2.2.2.2.1
      have o3 : okN s.Bank.Burnt := hg.1.2.2.2.2.2.2.1
      unfold okN at o1 o2 o3
      have hb := (burnB_ok hg.1 b2 (Int.le_trans b3 htok.1) hsum.1 hsum.2).1
      rw [Tr.run_bind (key _), Tr.run_bind pl_Burn]
      unfold inA at hL hT
      unfold bondedN
      simp only []
      rw [Tr.run_false (by rw [hb]; rfl), Tr.run_leaf]
      obtain ⟨x, hx⟩ : ∃ x, x = (partP (s.Validators.Tokens.get v) f).1 := ⟨_, rfl⟩
      obtain ⟨y, hy⟩ : ∃ y, y = sumN v h f s.Waits := ⟨_, rfl⟩
      rw [← hx] at b2 b3 ⊢
      rw [← hy] at hsum ⊢
      rw [i64_in (x := s.Validators.Tokens.get v - x) (by omega) (by omega), i64_in (x := s.Validators.Lost.get v + x) (by omega) (by omega), i64_in (x := s.Validators.Lost.get v + x + y) (by omega) (by omega), i64_in (x := x + y) (by omega) (by omega), Int.add_assoc]
  · rw [if_pos h0, Tr.run_true (by simpa using h0), Tr.run_leaf]

theorem pl_refSlash {s : Stake} {v h f : Int} : sh_ref_Slash s v h f = some (slashS s v h f) := by
  rw [sh_ref_Slash, T_ref_Slash, Tr.run_bind (pl_some _ _ _)]
  unfold slashS
  by_cases h0 : knownS s 0 v = 0
  · obtain ⟨hg, hd, hv⟩ := known_ok h0
    obtain ⟨⟨hT, hS, hL, h4, h5⟩, _, _⟩ := hg.at hv
    rw [if_neg (by simpa using h0), Tr.run_false (by simpa using h0), Tr.run_guard hv, Tr.run_bind pl_refPart]
    by_cases hf : f < 0 ∨ 1000 < f
    · have e : partP (s.Validators.Tokens.get v) f = (0, 2) := by unfold partP; rw [if_pos (by omega)]
      rw [if_pos hf, e, Tr.run_true (by rfl), Tr.run_leaf]
    · have hf' : 0 ≤ f ∧ f ≤ 1000 := by omega
      obtain ⟨b1, b2, b3⟩ := part_bound hT hf'
      rw [if_neg hf, Tr.run_false (by simpa using b1), Tr.run_bind (pl_copyS_o hg.fit)]
      have key : ∀ z : Stake, sh_ref_Slash_l1 v h f (partP (s.Validators.Tokens.get v) f).1 0 s.Waits s.Waits.length 0 s z s = some (v, (partP (s.Validators.Tokens.get v) f).1, sumN v h f s.Waits, s, z, { s with Waits := s.Waits.map (slW v h f) }) := by
        intro z
        rw [sh_ref_Slash_l1]
        refine loop_map (F := fun s : Int × Int × Int × Int × Int × (List Wait) × Int × Int × Stake × Stake × Stake => (T_ref_Slash_l1 s.1 s.2.1 s.2.2.1 s.2.2.2.1 s.2.2.2.2.1 s.2.2.2.2.2.1 s.2.2.2.2.2.2.1 s.2.2.2.2.2.2.2.1 s.2.2.2.2.2.2.2.2.1 s.2.2.2.2.2.2.2.2.2.1 s.2.2.2.2.2.2.2.2.2.2).run) s.Waits default
          (fun i W t => (v, h, f, (partP (s.Validators.Tokens.get v) f).1, t, s.Waits, (s.Waits.length : Int), (i : Int), s, z, { s with Waits := W })) (SlI s) (slW v h f) (fun t w => t + slN v h f w) (fun W t => (v, (partP (s.Validators.Tokens.get v) f).1, t, s, z, { s with Waits := W })) ?_ ?_ 0 (slI_start hg)
        · intro W t hW _
          simp only [T_ref_Slash_l1]; rw [Tr.run_false (by simp), Tr.run_leaf]
        · intro i W t hi hW hgi hI
          have h60 := hg.2.1.2.2
          obtain ⟨k1, k2, k3⟩ := slI_step hg (v := v) (h := h) hf' hi hI
          refine ⟨?_, k1⟩
          have ht := hI.1
          simp only [T_ref_Slash_l1]
          rw [Int.toNat_natCast]
          rw [hgi]
          obtain ⟨w, hw⟩ : ∃ w, w = s.Waits.getD i default := ⟨_, rfl⟩
          rw [← hw] at k2 k3 hgi ⊢
          rw [Tr.run_true (by simpa using hi), Tr.run_guard ⟨by omega, by rw [sl_len_waits]; omega⟩]
          unfold slN at k3
          unfold slN slW
          by_cases hh : hitW v h w = true
          · obtain ⟨c1, c2, c3⟩ := part_bound k2 hf'
            unfold inA at k2
            rw [if_pos hh] at k3
            rw [Tr.run_false (by unfold hitW at hh; simpa using hh), Tr.run_bind pl_refPart, Tr.run_guard ⟨by omega, by rw [sl_len_waits]; omega⟩, Tr.run_leaf, if_pos hh, if_pos hh, i64_nat (by omega), i64_in (x := t + _) (by omega) (by omega), i64_in (x := w.Amount - _) (by omega) (by omega)]
          · rw [Tr.run_true (by
              unfold hitW at hh
              simp only [Bool.or_eq_true, bne_iff_ne, decide_eq_true_eq]
              simp only [Bool.and_eq_true, beq_iff_eq, decide_eq_true_eq] at hh
              omega), Tr.run_leaf, if_neg hh, if_neg hh, i64_nat (by omega), ← hgi, set_self (by omega), Int.add_zero]
      have hsum := slI_end hg (v := v) (h := h) hf'
      have htok := tokens_le hg hv
      have o1 : okN s.Bank.Waiting := hg.1.2.2.2.2.2.1
      have o2 : okN s.Bank.Bonded := hg.1.2.2.2.2.1
      have o3 : okN s.Bank.Burnt := hg.1.2.2.2.2.2.2.1
      unfold okN at o1 o2 o3
      rw [Tr.run_bind (key _), Tr.run_bind pl_refBurn]
      unfold inA at hL hT
      unfold bondedN
      simp only []
      iterate 4 rw [Tr.run_guard hv]
      rw [Tr.run_leaf]
      obtain ⟨x, hx⟩ : ∃ x, x = (partP (s.Validators.Tokens.get v) f).1 := ⟨_, rfl⟩
      obtain ⟨y, hy⟩ : ∃ y, y = sumN v h f s.Waits := ⟨_, rfl⟩
      rw [← hx] at b2 b3 ⊢
      rw [← hy] at hsum ⊢
      rw [i64_in (x := s.Validators.Tokens.get v - x) (by omega) (by omega), i64_in (x := x + y) (by omega) (by omega), i64_in (x := s.Validators.Lost.get v + (x + y)) (by omega) (by omega)]
  · rw [if_pos h0, Tr.run_true (by simpa using h0), Tr.run_leaf]

end Go.Proofs.Ytbpehnghffljiaa.Ab
