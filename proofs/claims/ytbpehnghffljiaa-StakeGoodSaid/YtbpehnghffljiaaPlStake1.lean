/-
  Stakes, with no program in sight: Good, twice told, is the same.
-/
import Derived.Test.YtbpehnghffljiaaPlSets
import Derived.Test.YtbpehnghffljiaaPlBank2
import Derived.Test.YtbpehnghffljiaaFStakeA
import Derived.Test.YtbpehnghffljiaaFRefA
namespace Go.Proofs.Ytbpehnghffljiaa.Ab
open Go Go.RowKit
set_option linter.unusedVariables false
set_option linter.unusedSimpArgs false

/-- A loop over the numbers below n, which may end early. -/
theorem loop_below {σ τ β γ : Type} {F : σ → Option (σ ⊕ (β ⊕ γ))} (n : Nat) (mk : Nat → τ → σ) (g : τ → Nat → τ) (p : Nat → Prop) (bad : β) (out : τ → γ)
    (hend : ∀ t, F (mk n t) = some (.inr (.inr (out t)))) (hok : ∀ i t, i < n → p i → F (mk i t) = some (.inl (mk (i + 1) (g t i))))
    (hbad : ∀ i t, i < n → ¬ p i → F (mk i t) = some (.inr (.inl bad))) (t : τ) :
    ((∀ i, i < n → p i) ∧ iter F (mk 0 t) = some (.inr (out ((List.range n).foldl g t)))) ∨ ((¬ ∀ i, i < n → p i) ∧ iter F (mk 0 t) = some (.inl bad)) := by
  obtain ⟨r, h1, h2⟩ := iter_upto (F := F) n mk (fun _ _ => True)
    (fun i t r => ((∀ j, i ≤ j → j < n → p j) ∧ r = .inr (out (((List.range n).drop i).foldl g t))) ∨ ((¬ ∀ j, i ≤ j → j < n → p j) ∧ r = .inl bad)) (by
      intro t _
      refine ⟨_, hend t, .inl ⟨fun j h1 h2 => by omega, ?_⟩⟩
      rw [List.drop_eq_nil_of_le (by rw [List.length_range]; omega)]; rfl) (by
      intro i t hi _
      have hs := drop_step (l := List.range n) (k := i) (by rw [List.length_range]; exact hi) 0
      rw [range_getD hi] at hs
      by_cases hp : p i
      · refine .inl ⟨g t i, hok i t hi hp, trivial, fun r hr => ?_⟩
        rcases hr with ⟨h1, h2⟩ | ⟨h1, h2⟩
        · refine .inl ⟨fun j h3 h4 => ?_, ?_⟩
          · by_cases he : j = i
            · rw [he]; exact hp
            · exact h1 j (by omega) h4
          · rw [h2, hs, List.foldl_cons]
        · exact .inr ⟨fun h => h1 fun j h3 h4 => h j (by omega) h4, h2⟩
      · exact .inr ⟨_, hbad i t hi hp, .inr ⟨fun h => hp (h i (Nat.le_refl _) hi), rfl⟩⟩) 0 t (Nat.zero_le _) trivial
  rcases h2 with ⟨h2, h3⟩ | ⟨h2, h3⟩
  · exact .inl ⟨fun i hi => h2 i (Nat.zero_le _) hi, by rw [h1, h3, List.drop_zero]⟩
  · exact .inr ⟨fun h => h2 fun j _ h4 => h j h4, by rw [h1, h3]⟩

/-- A loop over the numbers below n. -/
theorem loop_num {σ τ ρ : Type} {F : σ → Option (σ ⊕ ρ)} (n : Nat) (mk : Nat → τ → σ) (g : τ → Nat → τ) (out : τ → ρ)
    (hend : ∀ t, F (mk n t) = some (.inr (out t))) (hok : ∀ i t, i < n → F (mk i t) = some (.inl (mk (i + 1) (g t i)))) (t : τ) :
    iter F (mk 0 t) = some (out ((List.range n).foldl g t)) := by
  have := loop_fold (F := F) (List.range n) 0 mk (fun _ _ => True) g out (fun t _ => by rw [List.length_range]; exact hend t) (fun i t hi _ => by
    rw [List.length_range] at hi
    rw [range_getD hi]
    exact ⟨hok i t hi, trivial⟩) t trivial
  exact this

theorem sl_len_waits (l : List Wait) : Sl.len (.waits l) = l.length := rfl

abbrev inA (n : Int) : Prop := 0 ≤ n ∧ n ≤ 1125899906842624
abbrev shr (s : Stake) (d v : Int) : Int := A46.get s.Shares d v
def shSum (s : Stake) (v : Int) : Int := shr s 0 v + shr s 1 v + shr s 2 v + shr s 3 v
def okV (T S L : Int) (J D : Bool) : Prop := inA T ∧ inA S ∧ inA L ∧ ¬ (S = 0 ∧ 0 < T) ∧ ¬ (D = true ∧ J = false)
instance (T S L : Int) (J D : Bool) : Decidable (okV T S L J D) := inferInstanceAs (Decidable (_ ∧ _))
def GoodV (s : Stake) (v : Int) : Prop :=
  okV (s.Validators.Tokens.get v) (s.Validators.Shares.get v) (s.Validators.Lost.get v) (s.Validators.Jailed.get v) (s.Validators.Dead.get v) ∧ (∀ d : Nat, d < 4 → inA (shr s d v)) ∧ shSum s v = s.Validators.Shares.get v
instance (s : Stake) (v : Int) : Decidable (GoodV s v) := inferInstanceAs (Decidable (_ ∧ _))
def GoodW (next last : Int) (w : Wait) : Prop := last < w.Number ∧ w.Number < next ∧ 0 ≤ w.D ∧ w.D < 4 ∧ 0 ≤ w.V ∧ w.V < 6 ∧ inA w.Amount ∧ 0 ≤ w.Height ∧ 0 ≤ w.Due
instance (n l : Int) (w : Wait) : Decidable (GoodW n l w) := inferInstanceAs (Decidable (_ ∧ _))
def GoodWs (next : Int) : Int → List Wait → Prop
  | _, [] => True
  | last, w :: l => GoodW next last w ∧ GoodWs next w.Number l
def decWs (next : Int) : (last : Int) → (l : List Wait) → Decidable (GoodWs next last l)
  | _, [] => isTrue trivial
  | last, w :: l => @instDecidableAnd _ _ (inferInstanceAs (Decidable (GoodW next last w))) (decWs next w.Number l)
instance (n p : Int) (l : List Wait) : Decidable (GoodWs n p l) := decWs n p l
def sumW : List Wait → Int
  | [] => 0
  | w :: l => w.Amount + sumW l
def sum6 (a : A6 Int) : Int := a.x0 + a.x1 + a.x2 + a.x3 + a.x4 + a.x5
def GoodS (s : Stake) : Prop := GoodB s.Bank ∧ (1 ≤ s.Next ∧ s.Next ≤ 1125899906842624 ∧ s.Waits.length ≤ 60) ∧ (∀ v : Nat, v < 6 → GoodV s v) ∧ GoodWs s.Next 0 s.Waits ∧
  sum6 s.Validators.Tokens = s.Bank.Bonded ∧ sumW s.Waits = s.Bank.Waiting ∧ sum6 s.Validators.Lost = s.Bank.Burnt
instance (s : Stake) : Decidable (GoodS s) := inferInstanceAs (Decidable (_ ∧ _))

def vsA (s : Stake) : A6 Validator := ⟨⟨s.Validators.Tokens.x0, s.Validators.Shares.x0, s.Validators.Lost.x0, s.Validators.Jailed.x0, s.Validators.Dead.x0⟩, ⟨s.Validators.Tokens.x1, s.Validators.Shares.x1, s.Validators.Lost.x1, s.Validators.Jailed.x1, s.Validators.Dead.x1⟩,
  ⟨s.Validators.Tokens.x2, s.Validators.Shares.x2, s.Validators.Lost.x2, s.Validators.Jailed.x2, s.Validators.Dead.x2⟩, ⟨s.Validators.Tokens.x3, s.Validators.Shares.x3, s.Validators.Lost.x3, s.Validators.Jailed.x3, s.Validators.Dead.x3⟩,
  ⟨s.Validators.Tokens.x4, s.Validators.Shares.x4, s.Validators.Lost.x4, s.Validators.Jailed.x4, s.Validators.Dead.x4⟩, ⟨s.Validators.Tokens.x5, s.Validators.Shares.x5, s.Validators.Lost.x5, s.Validators.Jailed.x5, s.Validators.Dead.x5⟩⟩
theorem vsA_T (s : Stake) : (⟨(vsA s).x0.Tokens, (vsA s).x1.Tokens, (vsA s).x2.Tokens, (vsA s).x3.Tokens, (vsA s).x4.Tokens, (vsA s).x5.Tokens⟩ : A6 Int) = s.Validators.Tokens := rfl
theorem vsA_S (s : Stake) : (⟨(vsA s).x0.Shares, (vsA s).x1.Shares, (vsA s).x2.Shares, (vsA s).x3.Shares, (vsA s).x4.Shares, (vsA s).x5.Shares⟩ : A6 Int) = s.Validators.Shares := rfl
theorem vsA_L (s : Stake) : (⟨(vsA s).x0.Lost, (vsA s).x1.Lost, (vsA s).x2.Lost, (vsA s).x3.Lost, (vsA s).x4.Lost, (vsA s).x5.Lost⟩ : A6 Int) = s.Validators.Lost := rfl
theorem vsA_J (s : Stake) : (⟨(vsA s).x0.Jailed, (vsA s).x1.Jailed, (vsA s).x2.Jailed, (vsA s).x3.Jailed, (vsA s).x4.Jailed, (vsA s).x5.Jailed⟩ : A6 Bool) = s.Validators.Jailed := rfl
theorem vsA_D (s : Stake) : (⟨(vsA s).x0.Dead, (vsA s).x1.Dead, (vsA s).x2.Dead, (vsA s).x3.Dead, (vsA s).x4.Dead, (vsA s).x5.Dead⟩ : A6 Bool) = s.Validators.Dead := rfl

theorem shares_get (a : A4 (A6 Int)) (d v : Int) : A6.get ⟨A4.get ⟨a.x0.x0, a.x1.x0, a.x2.x0, a.x3.x0⟩ d, A4.get ⟨a.x0.x1, a.x1.x1, a.x2.x1, a.x3.x1⟩ d, A4.get ⟨a.x0.x2, a.x1.x2, a.x2.x2, a.x3.x2⟩ d, A4.get ⟨a.x0.x3, a.x1.x3, a.x2.x3, a.x3.x3⟩ d, A4.get ⟨a.x0.x4, a.x1.x4, a.x2.x4, a.x3.x4⟩ d, A4.get ⟨a.x0.x5, a.x1.x5, a.x2.x5, a.x3.x5⟩ d⟩ v = A46.get a d v := by
  unfold A46.get A4.get
  by_cases h0 : d = 0
  · simp only [if_pos h0]
  · by_cases h1 : d = 1
    · simp only [if_neg h0, if_pos h1]
    · by_cases h2 : d = 2
      · simp only [if_neg h0, if_neg h1, if_pos h2]
      · simp only [if_neg h0, if_neg h1, if_neg h2]

/-! The sums of shares. -/

theorem shr_fold {s : Stake} {v : Int} (h : ∀ d : Nat, d < 4 → inA (shr s d v)) : (List.range 4).foldl (fun t (d : Nat) => IntKind.i64.wrap (t + shr s d v)) 0 = shSum s v := by
  show IntKind.i64.wrap (IntKind.i64.wrap (IntKind.i64.wrap (IntKind.i64.wrap (0 + shr s 0 v) + shr s 1 v) + shr s 2 v) + shr s 3 v) = _
  have h0 : inA (shr s 0 v) := h 0 (by omega)
  have h1 : inA (shr s 1 v) := h 1 (by omega)
  have h2 : inA (shr s 2 v) := h 2 (by omega)
  have h3 : inA (shr s 3 v) := h 3 (by omega)
  unfold shSum
  simp only [IntKind.wrap_i64]
  omega

theorem sGood_l1 (s : Stake) {v : Nat} (hv : v < 6) (x0 x1 x2 x6 : Int) (a : A6 Validator) (x9 : Validator) :
    ((∀ d : Nat, d < 4 → inA (shr s d v)) ∧ sh_stake_Good_l1 x0 x1 x2 v 0 a x6 0 s x9 = some (.inr (x0, x1, x2, shSum s v, a, x6, s, x9))) ∨
    ((¬ ∀ d : Nat, d < 4 → inA (shr s d v)) ∧ sh_stake_Good_l1 x0 x1 x2 v 0 a x6 0 s x9 = some (.inl false)) := by
  have := loop_below (F := fun s : Int × Int × Int × Int × Int × (A6 Validator) × Int × Int × Stake × Validator => (T_stake_Good_l1 s.1 s.2.1 s.2.2.1 s.2.2.2.1 s.2.2.2.2.1 s.2.2.2.2.2.1 s.2.2.2.2.2.2.1 s.2.2.2.2.2.2.2.1 s.2.2.2.2.2.2.2.2.1 s.2.2.2.2.2.2.2.2.2).run) 4
    (fun i t => (x0, x1, x2, (v : Int), t, a, x6, (i : Int), s, x9)) (fun t (d : Nat) => IntKind.i64.wrap (t + shr s d v)) (fun d => inA (shr s d v)) false (fun t => (x0, x1, x2, t, a, x6, s, x9)) (by
      intro t
      simp only [T_stake_Good_l1]; rw [Tr.run_false (by rfl), Tr.run_leaf]) (by
      intro i t hi hp
      simp only [T_stake_Good_l1]
      rw [Tr.run_true (by simp; omega), Tr.run_guard (by omega), Tr.run_guard (by omega), Tr.run_bind (pl_In _), Tr.run_false (by simpa using hp), Tr.run_guard (by omega), Tr.run_guard (by omega), Tr.run_leaf, i64_nat (by omega)]) (by
      intro i t hi hp
      simp only [T_stake_Good_l1]
      rw [Tr.run_true (by simp; omega), Tr.run_guard (by omega), Tr.run_guard (by omega), Tr.run_bind (pl_In _), Tr.run_true (by rw [Bool.not_eq_true', decide_eq_false_iff_not]; exact hp), Tr.run_leaf]) 0
  rcases this with ⟨h1, h2⟩ | ⟨h1, h2⟩
  · rw [shr_fold h1] at h2; exact .inl ⟨h1, h2⟩
  · exact .inr ⟨h1, h2⟩

theorem rGood_l1 (s : Stake) {v : Nat} (hv : v < 6) (x0 x1 x5 : Int) (a : A6 Validator) (x9 : Validator) :
    ((∀ d : Nat, d < 4 → inA (shr s d v)) ∧ sh_ref_GoodStake_l1 x0 x1 v 0 a x5 s.Shares 0 s x9 = some (.inr (x0, x1, shSum s v, a, x5, s, x9))) ∨
    ((¬ ∀ d : Nat, d < 4 → inA (shr s d v)) ∧ sh_ref_GoodStake_l1 x0 x1 v 0 a x5 s.Shares 0 s x9 = some (.inl false)) := by
  have := loop_below (F := fun s : Int × Int × Int × Int × (A6 Validator) × Int × (A4 (A6 Int)) × Int × Stake × Validator => (T_ref_GoodStake_l1 s.1 s.2.1 s.2.2.1 s.2.2.2.1 s.2.2.2.2.1 s.2.2.2.2.2.1 s.2.2.2.2.2.2.1 s.2.2.2.2.2.2.2.1 s.2.2.2.2.2.2.2.2.1 s.2.2.2.2.2.2.2.2.2).run) 4
    (fun i t => (x0, x1, (v : Int), t, a, x5, s.Shares, (i : Int), s, x9)) (fun t (d : Nat) => IntKind.i64.wrap (t + shr s d v)) (fun d => inA (shr s d v)) false (fun t => (x0, x1, t, a, x5, s, x9)) (by
      intro t
      simp only [T_ref_GoodStake_l1]; rw [Tr.run_false (by rfl), Tr.run_leaf]) (by
      intro i t hi hp
      simp only [T_ref_GoodStake_l1]
      rw [shares_get, Tr.run_true (by simp; omega), Tr.run_guard (by omega), Tr.run_guard (by omega), Tr.run_bind (pl_refIn _), Tr.run_false (by simpa using hp), Tr.run_guard (by omega), Tr.run_leaf, i64_nat (by omega)]) (by
      intro i t hi hp
      simp only [T_ref_GoodStake_l1]
      rw [shares_get, Tr.run_true (by simp; omega), Tr.run_guard (by omega), Tr.run_guard (by omega), Tr.run_bind (pl_refIn _), Tr.run_true (by rw [Bool.not_eq_true', decide_eq_false_iff_not]; exact hp), Tr.run_leaf]) 0
  rcases this with ⟨h1, h2⟩ | ⟨h1, h2⟩
  · rw [shr_fold h1] at h2; exact .inl ⟨h1, h2⟩
  · exact .inr ⟨h1, h2⟩

/-! The validators. -/

theorem cond_s (T S L : Int) (J D : Bool) : (((((!(decide (0 ≤ T ∧ T ≤ 1125899906842624))) || (!(decide (0 ≤ S ∧ S ≤ 1125899906842624)))) || (!(decide (0 ≤ L ∧ L ≤ 1125899906842624)))) || ((S == 0) && (decide (T > 0)))) || (D && (!J))) = !decide (okV T S L J D) := by
  rw [Bool.eq_iff_iff]
  unfold okV inA
  cases J <;> cases D <;> simp <;> omega

theorem cond_r (n T S L : Int) (J D : Bool) : (((((!(decide (0 ≤ T ∧ T ≤ 1125899906842624))) || (!(decide (0 ≤ S ∧ S ≤ 1125899906842624)))) || (!(decide (0 ≤ L ∧ L ≤ 1125899906842624)))) || (n != S)) || ((n == 0) && (T != 0)) || (D && (!J))) = !decide (okV T S L J D ∧ n = S) := by
  rw [Bool.eq_iff_iff]
  unfold okV inA
  cases J <;> cases D <;> simp <;> omega

theorem tok_fold {f g : Nat → Int} (hf : ∀ v : Nat, v < 6 → inA (f v)) (hg : ∀ v : Nat, v < 6 → inA (g v)) :
    (List.range 6).foldl (fun (t : Int × Int) (v : Nat) => (IntKind.i64.wrap (t.1 + f v), IntKind.i64.wrap (t.2 + g v))) (0, 0) = (f 0 + f 1 + f 2 + f 3 + f 4 + f 5, g 0 + g 1 + g 2 + g 3 + g 4 + g 5) := by
  show (IntKind.i64.wrap (IntKind.i64.wrap (IntKind.i64.wrap (IntKind.i64.wrap (IntKind.i64.wrap (IntKind.i64.wrap (0 + f 0) + f 1) + f 2) + f 3) + f 4) + f 5), IntKind.i64.wrap (IntKind.i64.wrap (IntKind.i64.wrap (IntKind.i64.wrap (IntKind.i64.wrap (IntKind.i64.wrap (0 + g 0) + g 1) + g 2) + g 3) + g 4) + g 5)) = _
  have e : ∀ f : Nat → Int, (∀ v : Nat, v < 6 → inA (f v)) → IntKind.i64.wrap (IntKind.i64.wrap (IntKind.i64.wrap (IntKind.i64.wrap (IntKind.i64.wrap (IntKind.i64.wrap (0 + f 0) + f 1) + f 2) + f 3) + f 4) + f 5) = f 0 + f 1 + f 2 + f 3 + f 4 + f 5 := by
    intro f hf
    have h0 := hf 0 (by omega); have h1 := hf 1 (by omega); have h2 := hf 2 (by omega); have h3 := hf 3 (by omega); have h4 := hf 4 (by omega); have h5 := hf 5 (by omega)
    unfold inA at h0 h1 h2 h3 h4 h5
    rw [i64_in (x := 0 + f 0) (by omega) (by omega), i64_in (x := _ + f 1) (by omega) (by omega), i64_in (x := _ + f 2) (by omega) (by omega), i64_in (x := _ + f 3) (by omega) (by omega), i64_in (x := _ + f 4) (by omega) (by omega), i64_in (x := _ + f 5) (by omega) (by omega)]
    omega
  rw [e f hf, e g hg]

theorem sGood_l2 (s : Stake) :
    ((∀ v : Nat, v < 6 → GoodV s v) ∧ sh_stake_Good_l2 0 0 0 (vsA s) 0 s = some (.inr (sum6 s.Validators.Tokens, 0, sum6 s.Validators.Lost, s))) ∨ ((¬ ∀ v : Nat, v < 6 → GoodV s v) ∧ sh_stake_Good_l2 0 0 0 (vsA s) 0 s = some (.inl false)) := by
  have := loop_below (F := fun s : Int × Int × Int × (A6 Validator) × Int × Stake => (T_stake_Good_l2 s.1 s.2.1 s.2.2.1 s.2.2.2.1 s.2.2.2.2.1 s.2.2.2.2.2).run) 6
    (fun i (t : Int × Int) => (t.1, 0, t.2, vsA s, (i : Int), s)) (fun t (v : Nat) => (IntKind.i64.wrap (t.1 + s.Validators.Tokens.get v), IntKind.i64.wrap (t.2 + s.Validators.Lost.get v))) (fun v => GoodV s v) false (fun t => (t.1, 0, t.2, s)) (by
      intro t
      simp only [T_stake_Good_l2]; rw [Tr.run_false (by rfl), Tr.run_leaf]) (by
      rintro i ⟨t1, t2⟩ hi ⟨hp1, hp2, hp3⟩
      simp only [T_stake_Good_l2]
      rw [vsA_T, vsA_S, vsA_L, vsA_J, vsA_D, Tr.run_true (by simp; omega), Tr.run_guard (by omega), Tr.run_bind (pl_In _)]
      simp only [pl_In, Option.isSome_some, Option.getD_some]
      rw [Tr.run_guard (by simp), Tr.run_guard (by simp), Tr.run_false (by rw [cond_s]; simpa using hp1)]
      rcases sGood_l1 s hi t1 0 t2 i (vsA s) (⟨s.Validators.Tokens.get i, s.Validators.Shares.get i, s.Validators.Lost.get i, s.Validators.Jailed.get i, s.Validators.Dead.get i⟩ : Validator) with ⟨k1, k2⟩ | ⟨k1, k2⟩
      · rw [Tr.run_inr k2]
        simp only []
        rw [Tr.run_false (by simpa using hp3), Tr.run_leaf, i64_nat (by omega)]
      · exact absurd hp2 k1) (by
      rintro i ⟨t1, t2⟩ hi hp
      simp only [T_stake_Good_l2]
      rw [vsA_T, vsA_S, vsA_L, vsA_J, vsA_D, Tr.run_true (by simp; omega), Tr.run_guard (by omega), Tr.run_bind (pl_In _)]
      simp only [pl_In, Option.isSome_some, Option.getD_some]
      rw [Tr.run_guard (by simp), Tr.run_guard (by simp)]
      by_cases hp1 : okV (s.Validators.Tokens.get i) (s.Validators.Shares.get i) (s.Validators.Lost.get i) (s.Validators.Jailed.get i) (s.Validators.Dead.get i)
      · rw [Tr.run_false (by rw [cond_s]; simpa using hp1)]
        rcases sGood_l1 s hi t1 0 t2 i (vsA s) (⟨s.Validators.Tokens.get i, s.Validators.Shares.get i, s.Validators.Lost.get i, s.Validators.Jailed.get i, s.Validators.Dead.get i⟩ : Validator) with ⟨k1, k2⟩ | ⟨k1, k2⟩
        · rw [Tr.run_inr k2]
          simp only []
          rw [Tr.run_true (by simpa using fun h => hp ⟨hp1, k1, h⟩), Tr.run_leaf]
        · rw [Tr.run_inl k2, Tr.run_leaf]
      · rw [Tr.run_true (by rw [cond_s]; simpa using hp1), Tr.run_leaf]) (0, 0)
  rcases this with ⟨h1, h2⟩ | ⟨h1, h2⟩
  · rw [tok_fold (f := fun v => s.Validators.Tokens.get v) (g := fun v => s.Validators.Lost.get v) (fun v hv => (h1 v hv).1.1) (fun v hv => (h1 v hv).1.2.2.1)] at h2
    exact .inl ⟨h1, h2⟩
  · exact .inr ⟨h1, h2⟩

theorem rGood_l2 (s : Stake) :
    ((∀ v : Nat, v < 6 → GoodV s v) ∧ sh_ref_GoodStake_l2 0 0 (vsA s) 0 s = some (.inr (sum6 s.Validators.Tokens, sum6 s.Validators.Lost, s))) ∨ ((¬ ∀ v : Nat, v < 6 → GoodV s v) ∧ sh_ref_GoodStake_l2 0 0 (vsA s) 0 s = some (.inl false)) := by
  have := loop_below (F := fun s : Int × Int × (A6 Validator) × Int × Stake => (T_ref_GoodStake_l2 s.1 s.2.1 s.2.2.1 s.2.2.2.1 s.2.2.2.2).run) 6
    (fun i (t : Int × Int) => (t.1, t.2, vsA s, (i : Int), s)) (fun t (v : Nat) => (IntKind.i64.wrap (t.1 + s.Validators.Tokens.get v), IntKind.i64.wrap (t.2 + s.Validators.Lost.get v))) (fun v => GoodV s v) false (fun t => (t.1, t.2, s)) (by
      intro t
      simp only [T_ref_GoodStake_l2]; rw [Tr.run_false (by rfl), Tr.run_leaf]) (by
      rintro i ⟨t1, t2⟩ hi ⟨hp1, hp2, hp3⟩
      simp only [T_ref_GoodStake_l2]
      rw [vsA_T, vsA_S, vsA_L, vsA_J, vsA_D, Tr.run_true (by simp; omega), Tr.run_guard (by omega)]
      rcases rGood_l1 s hi t1 t2 i (vsA s) (⟨s.Validators.Tokens.get i, s.Validators.Shares.get i, s.Validators.Lost.get i, s.Validators.Jailed.get i, s.Validators.Dead.get i⟩ : Validator) with ⟨k1, k2⟩ | ⟨k1, k2⟩
      · rw [Tr.run_inr k2]
        simp only []
        rw [Tr.run_bind (pl_refIn _)]
        simp only [pl_refIn, Option.isSome_some, Option.getD_some]
        rw [Tr.run_guard (by simp), Tr.run_guard (by simp), Tr.run_false (by rw [cond_r]; simpa using ⟨hp1, hp3⟩), Tr.run_leaf, i64_nat (by omega)]
      · exact absurd hp2 k1) (by
      rintro i ⟨t1, t2⟩ hi hp
      simp only [T_ref_GoodStake_l2]
      rw [vsA_T, vsA_S, vsA_L, vsA_J, vsA_D, Tr.run_true (by simp; omega), Tr.run_guard (by omega)]
      rcases rGood_l1 s hi t1 t2 i (vsA s) (⟨s.Validators.Tokens.get i, s.Validators.Shares.get i, s.Validators.Lost.get i, s.Validators.Jailed.get i, s.Validators.Dead.get i⟩ : Validator) with ⟨k1, k2⟩ | ⟨k1, k2⟩
      · rw [Tr.run_inr k2]
        simp only []
        rw [Tr.run_bind (pl_refIn _)]
        simp only [pl_refIn, Option.isSome_some, Option.getD_some]
        rw [Tr.run_guard (by simp), Tr.run_guard (by simp), Tr.run_true (by rw [cond_r, Bool.not_eq_true', decide_eq_false_iff_not]; exact fun h => hp ⟨h.1, k1, h.2⟩), Tr.run_leaf]
      · rw [Tr.run_inl k2, Tr.run_leaf]) (0, 0)
  rcases this with ⟨h1, h2⟩ | ⟨h1, h2⟩
  · rw [tok_fold (f := fun v => s.Validators.Tokens.get v) (g := fun v => s.Validators.Lost.get v) (fun v hv => (h1 v hv).1.1) (fun v hv => (h1 v hv).1.2.2.1)] at h2
    exact .inl ⟨h1, h2⟩
  · exact .inr ⟨h1, h2⟩

/-! What waits. -/

def lastN (l : List Wait) (i : Nat) : Int := if i = 0 then 0 else (l.getD (i - 1) default).Number
theorem lastN_succ (l : List Wait) (i : Nat) : lastN l (i + 1) = (l.getD i default).Number := by unfold lastN; rw [if_neg (by omega), Nat.add_sub_cancel]

theorem sGood_l3 {s : Stake} (hl : s.Waits.length ≤ 60) (x0 x2 : Int) :
    (GoodWs s.Next 0 s.Waits ∧ sh_stake_Good_l3 x0 0 x2 s.Waits s.Waits.length 0 s = some (.inr (x0, sumW s.Waits, x2, s))) ∨ (¬ GoodWs s.Next 0 s.Waits ∧ sh_stake_Good_l3 x0 0 x2 s.Waits s.Waits.length 0 s = some (.inl false)) := by
  obtain ⟨r, h1, h2⟩ := iter_upto (F := fun s : Int × Int × Int × (List Wait) × Int × Int × Stake => (T_stake_Good_l3 s.1 s.2.1 s.2.2.1 s.2.2.2.1 s.2.2.2.2.1 s.2.2.2.2.2.1 s.2.2.2.2.2.2).run) s.Waits.length
    (fun i t => (x0, t, x2, s.Waits, (s.Waits.length : Int), (i : Int), s)) (fun i t => 0 ≤ t ∧ t ≤ i * 1125899906842624 ∧ (i = 0 ∨ 1 ≤ lastN s.Waits i))
    (fun i t r => (GoodWs s.Next (lastN s.Waits i) (s.Waits.drop i) ∧ r = .inr (x0, t + sumW (s.Waits.drop i), x2, s)) ∨ (¬ GoodWs s.Next (lastN s.Waits i) (s.Waits.drop i) ∧ r = .inl false)) (by
      intro t _
      refine ⟨.inr (x0, t, x2, s), ?_, .inl ⟨?_, ?_⟩⟩
      · simp only [T_stake_Good_l3]; rw [Tr.run_false (by simp), Tr.run_leaf]
      · rw [List.drop_length]; trivial
      · rw [List.drop_length]; simp only [sumW, Int.add_zero]) (by
      rintro i t hi ⟨ht0, ht1, ht2⟩
      have hs := drop_step (l := s.Waits) (k := i) hi default
      have hn : (IntKind.i64.wrap ((i : Int) - 1)).toNat = i - 1 := by rw [i64_in (by omega) (by omega)]; omega
      have hN := lastN_succ s.Waits i
      simp only [T_stake_Good_l3, pl_In, Option.isSome_some, Option.getD_some]
      rw [Int.toNat_natCast, hn]
      obtain ⟨w, hw⟩ : ∃ w, w = s.Waits.getD i default := ⟨_, rfl⟩
      rw [← hw] at hs hN ⊢
      have hc : ((((((((((decide (w.Number < 1)) || (decide (w.Number ≥ s.Next))) || ((decide ((i : Int) > 0)) && (decide ((s.Waits.getD (i - 1) default).Number ≥ w.Number)))) || (decide (w.D < 0))) || (decide (w.D ≥ 4))) || (decide (w.V < 0))) || (decide (w.V ≥ 6))) || (!(decide (0 ≤ w.Amount ∧ w.Amount ≤ 1125899906842624)))) || (decide (w.Height < 0))) || (decide (w.Due < 0))) = !decide (GoodW s.Next (lastN s.Waits i) w) := by
        rw [Bool.eq_iff_iff]
        simp only [Bool.or_eq_true, Bool.and_eq_true, Bool.not_eq_true', decide_eq_true_eq, decide_eq_false_iff_not]
        unfold GoodW inA
        by_cases h0 : i = 0
        · have hq : lastN s.Waits i = 0 := by unfold lastN; rw [if_pos h0]
          rw [hq]; constructor <;> intro h <;> omega
        · have hq : lastN s.Waits i = (s.Waits.getD (i - 1) default).Number := by unfold lastN; rw [if_neg h0]
          rw [hq] at ht2 ⊢; constructor <;> intro h <;> omega
      rw [Tr.run_true (by simpa using hi), Tr.run_guard ⟨by omega, by rw [sl_len_waits]; omega⟩, Tr.run_guard (by
        intro h _
        rw [decide_eq_true_eq] at h
        rw [i64_in (by omega) (by omega), sl_len_waits]
        exact ⟨by omega, trivial⟩), Tr.run_guard (by simp), hs]
      by_cases hg : GoodW s.Next (lastN s.Waits i) w
      · have h7 := hg.2.2.2.2.2.2.1
        have h8 := hg.1
        unfold inA at h7
        refine .inl ⟨t + w.Amount, ?_, ⟨by omega, by omega, .inr (by rw [hN]; unfold lastN at h8 ht2; omega)⟩, ?_⟩
        · rw [Tr.run_false (by rw [hc]; simpa using hg), Tr.run_leaf, i64_nat (by omega), i64_in (by omega) (by omega)]
        · intro r hr
          rw [hN] at hr
          simp only [GoodWs, sumW]
          rcases hr with ⟨k1, k2⟩ | ⟨k1, k2⟩
          · exact .inl ⟨⟨hg, k1⟩, by rw [k2, Int.add_assoc]⟩
          · exact .inr ⟨fun h => k1 h.2, k2⟩
      · refine .inr ⟨.inl false, ?_, .inr ⟨fun h => hg h.1, rfl⟩⟩
        rw [Tr.run_true (by rw [hc]; simpa using hg), Tr.run_leaf]) 0 0 (by omega) ⟨by omega, by omega, .inl rfl⟩
  have h1 : sh_stake_Good_l3 x0 0 x2 s.Waits s.Waits.length 0 s = some r := h1
  rw [h1]
  simp only [List.drop_zero, Int.zero_add] at h2
  rcases h2 with ⟨k1, k2⟩ | ⟨k1, k2⟩
  · exact .inl ⟨k1, by rw [k2]⟩
  · exact .inr ⟨k1, by rw [k2]⟩

theorem rGood_l3 {s : Stake} (hl : s.Waits.length ≤ 60) (x0 x1 : Int) :
    (GoodWs s.Next 0 s.Waits ∧ sh_ref_GoodStake_l3 x0 x1 0 0 s.Waits s.Waits.length 0 s = some (.inr (x0, x1, sumW s.Waits, s))) ∨ (¬ GoodWs s.Next 0 s.Waits ∧ sh_ref_GoodStake_l3 x0 x1 0 0 s.Waits s.Waits.length 0 s = some (.inl false)) := by
  obtain ⟨r, h1, h2⟩ := iter_upto (F := fun s : Int × Int × Int × Int × (List Wait) × Int × Int × Stake => (T_ref_GoodStake_l3 s.1 s.2.1 s.2.2.1 s.2.2.2.1 s.2.2.2.2.1 s.2.2.2.2.2.1 s.2.2.2.2.2.2.1 s.2.2.2.2.2.2.2).run) s.Waits.length
    (fun i (t : Int × Int) => (x0, x1, t.1, t.2, s.Waits, (s.Waits.length : Int), (i : Int), s)) (fun i t => 0 ≤ t.1 ∧ t.1 ≤ i * 1125899906842624)
    (fun i t r => (GoodWs s.Next t.2 (s.Waits.drop i) ∧ r = .inr (x0, x1, t.1 + sumW (s.Waits.drop i), s)) ∨ (¬ GoodWs s.Next t.2 (s.Waits.drop i) ∧ r = .inl false)) (by
      intro t _
      refine ⟨.inr (x0, x1, t.1, s), ?_, .inl ⟨?_, ?_⟩⟩
      · simp only [T_ref_GoodStake_l3]; rw [Tr.run_false (by simp), Tr.run_leaf]
      · rw [List.drop_length]; trivial
      · rw [List.drop_length]; simp only [sumW, Int.add_zero]) (by
      rintro i ⟨t, last⟩ hi ⟨ht0, ht1⟩
      have hs := drop_step (l := s.Waits) (k := i) hi default
      simp only at ht0 ht1
      simp only [T_ref_GoodStake_l3, pl_refIn, Option.isSome_some, Option.getD_some]
      rw [Int.toNat_natCast]
      obtain ⟨w, hw⟩ : ∃ w, w = s.Waits.getD i default := ⟨_, rfl⟩
      rw [← hw] at hs ⊢
      have hc : (((((((((decide (w.Number ≤ last)) || (decide (w.Number ≥ s.Next))) || (decide (w.D < 0))) || (decide (w.D > 3))) || (decide (w.V < 0))) || (decide (w.V > 5))) || (!(decide (0 ≤ w.Amount ∧ w.Amount ≤ 1125899906842624)))) || (decide (w.Height < 0))) || (decide (w.Due < 0))) = !decide (GoodW s.Next last w) := by
        rw [Bool.eq_iff_iff]
        simp only [Bool.or_eq_true, Bool.and_eq_true, Bool.not_eq_true', decide_eq_true_eq, decide_eq_false_iff_not]
        unfold GoodW inA
        constructor <;> intro h <;> omega
      rw [Tr.run_true (by simpa using hi), Tr.run_guard ⟨by omega, by rw [sl_len_waits]; omega⟩, Tr.run_guard (by simp), hs]
      by_cases hg : GoodW s.Next last w
      · have h7 := hg.2.2.2.2.2.2.1
        unfold inA at h7
        refine .inl ⟨(t + w.Amount, w.Number), ?_, ⟨by show 0 ≤ t + w.Amount; omega, by show t + w.Amount ≤ _; omega⟩, ?_⟩
        · rw [Tr.run_false (by rw [hc]; simpa using hg), Tr.run_leaf, i64_nat (by omega), i64_in (by omega) (by omega)]
        · intro r hr
          simp only [GoodWs, sumW]
          rcases hr with ⟨k1, k2⟩ | ⟨k1, k2⟩
          · exact .inl ⟨⟨hg, k1⟩, by rw [k2, Int.add_assoc]⟩
          · exact .inr ⟨fun h => k1 h.2, k2⟩
      · refine .inr ⟨.inl false, ?_, .inr ⟨fun h => hg h.1, rfl⟩⟩
        rw [Tr.run_true (by rw [hc]; simpa using hg), Tr.run_leaf]) 0 (0, 0) (by omega) ⟨by simp, by simp⟩
  have h1 : sh_ref_GoodStake_l3 x0 x1 0 0 s.Waits s.Waits.length 0 s = some r := h1
  rw [h1]
  simp only [List.drop_zero, Int.zero_add] at h2
  rcases h2 with ⟨k1, k2⟩ | ⟨k1, k2⟩
  · exact .inl ⟨k1, by rw [k2]⟩
  · exact .inr ⟨k1, by rw [k2]⟩

theorem pl_stakeGood (s : Stake) : sh_stake_Good s = some (decide (GoodS s)) := by
  rw [sh_stake_Good, T_stake_Good, Tr.run_bind (pl_bankGood _)]
  by_cases h0 : GoodB s.Bank ∧ 1 ≤ s.Next ∧ s.Next ≤ 1125899906842624 ∧ s.Waits.length ≤ 60
  · obtain ⟨b0, b1, b2, b3⟩ := h0
    rw [Tr.run_false (by simp [b0]; omega)]
    rcases sGood_l2 s with ⟨k1, k2⟩ | ⟨k1, k2⟩
    · refine (Tr.run_inr k2).trans ?_
      simp only []
      rcases sGood_l3 b3 (sum6 s.Validators.Tokens) (sum6 s.Validators.Lost) with ⟨l1, l2⟩ | ⟨l1, l2⟩
      · rw [Tr.run_inr l2, Tr.run_leaf]
        congr 1
        rw [Bool.eq_iff_iff]
        simp only [Bool.and_eq_true, beq_iff_eq, decide_eq_true_eq]
        exact ⟨fun h => ⟨b0, ⟨b1, b2, b3⟩, k1, l1, h.1.1, h.1.2, h.2⟩, fun h => ⟨⟨h.2.2.2.2.1, h.2.2.2.2.2.1⟩, h.2.2.2.2.2.2⟩⟩
      · rw [Tr.run_inl l2, Tr.run_leaf, decide_eq_false (fun h => l1 h.2.2.2.1)]
    · refine (Tr.run_inl k2).trans ?_
      rw [Tr.run_leaf, decide_eq_false (fun h => k1 h.2.2.1)]
  · rw [Tr.run_true (by
      by_cases b0 : GoodB s.Bank
      · have h1 : ¬ (1 ≤ s.Next ∧ s.Next ≤ 1125899906842624 ∧ s.Waits.length ≤ 60) := fun h => h0 ⟨b0, h⟩
        simp only [b0, Bool.or_eq_true, Bool.not_eq_true', decide_eq_true_eq, decide_eq_false_iff_not, not_true, false_or]
        omega
      · simp [b0]), Tr.run_leaf, decide_eq_false (fun h => h0 ⟨h.1, h.2.1⟩)]

theorem pl_refstakeGood (s : Stake) : sh_ref_GoodStake s = some (decide (GoodS s)) := by
  rw [sh_ref_GoodStake, T_ref_GoodStake, Tr.run_bind (pl_refGoodB _)]
  by_cases h0 : GoodB s.Bank ∧ 1 ≤ s.Next ∧ s.Next ≤ 1125899906842624 ∧ s.Waits.length ≤ 60
  · obtain ⟨b0, b1, b2, b3⟩ := h0
    rw [Tr.run_false (by simp [b0]; omega)]
    rcases rGood_l2 s with ⟨k1, k2⟩ | ⟨k1, k2⟩
    · refine (Tr.run_inr k2).trans ?_
      simp only []
      rcases rGood_l3 b3 (sum6 s.Validators.Tokens) (sum6 s.Validators.Lost) with ⟨l1, l2⟩ | ⟨l1, l2⟩
      · rw [Tr.run_inr l2, Tr.run_leaf]
        congr 1
        rw [Bool.eq_iff_iff]
        simp only [Bool.and_eq_true, beq_iff_eq, decide_eq_true_eq]
        exact ⟨fun h => ⟨b0, ⟨b1, b2, b3⟩, k1, l1, h.1.1, h.1.2, h.2⟩, fun h => ⟨⟨h.2.2.2.2.1, h.2.2.2.2.2.1⟩, h.2.2.2.2.2.2⟩⟩
      · rw [Tr.run_inl l2, Tr.run_leaf, decide_eq_false (fun h => l1 h.2.2.2.1)]
    · refine (Tr.run_inl k2).trans ?_
      rw [Tr.run_leaf, decide_eq_false (fun h => k1 h.2.2.1)]
  · rw [Tr.run_true (by
      by_cases b0 : GoodB s.Bank
      · have h1 : ¬ (1 ≤ s.Next ∧ s.Next ≤ 1125899906842624 ∧ s.Waits.length ≤ 60) := fun h => h0 ⟨b0, h⟩
        simp only [b0, Bool.or_eq_true, Bool.not_eq_true', decide_eq_true_eq, decide_eq_false_iff_not, not_true, false_or]
        omega
      · simp [b0]), Tr.run_leaf, decide_eq_false (fun h => h0 ⟨h.1, h.2.1⟩)]

def knownS (s : Stake) (d v : Int) : Int := if ¬ GoodS s then 2 else if d < 0 ∨ 4 ≤ d ∨ v < 0 ∨ 6 ≤ v then 4 else 0

theorem pl_known (s : Stake) (d v : Int) : sh_stake_known s d v = some (knownS s d v) := by
  rw [sh_stake_known, T_stake_known, Tr.run_bind (pl_stakeGood s)]
  unfold knownS
  by_cases h : GoodS s
  · rw [if_neg (by simpa using h), Tr.run_false (by simpa using h)]
    by_cases h2 : d < 0 ∨ 4 ≤ d ∨ v < 0 ∨ 6 ≤ v
    · rw [if_pos h2, Tr.run_true (by simpa [or_assoc] using h2), Tr.run_leaf]
    · rw [if_neg h2, Tr.run_false (by simp only [Bool.or_eq_false_iff, decide_eq_false_iff_not]; omega), Tr.run_leaf]
  · rw [if_pos h, Tr.run_true (by simpa using h), Tr.run_leaf]

theorem pl_some (s : Stake) (d v : Int) : sh_ref_some s d v = some (knownS s d v) := by
  rw [sh_ref_some, T_ref_some, Tr.run_bind (pl_refstakeGood s)]
  unfold knownS
  by_cases h : GoodS s
  · rw [if_neg (by simpa using h), Tr.run_false (by simpa using h)]
    by_cases h2 : d < 0 ∨ 4 ≤ d ∨ v < 0 ∨ 6 ≤ v
    · rw [if_pos h2, Tr.run_true (by simp only [Bool.or_eq_true, decide_eq_true_eq]; omega), Tr.run_leaf]
    · rw [if_neg h2, Tr.run_false (by simp only [Bool.or_eq_false_iff, decide_eq_false_iff_not]; omega), Tr.run_leaf]
  · rw [if_pos h, Tr.run_true (by simpa using h), Tr.run_leaf]

end Go.Proofs.Ytbpehnghffljiaa.Ab
