/-
  The plain lemmas.
-/
import Derived.Test.YtknbejjfejdppaaGreatPlAllA
import Derived.Test.YtknbejjfejdppaaGreatFProv
import Derived.Test.YtknbejjfejdppaaGreatFRefP
import Derived.Test.YtknbejjfejdppaaGreatFLine
import Derived.Test.YtknbejjfejdppaaGreatFCodec
import Derived.Test.YtknbejjfejdppaaGreatFBank
import Derived.Test.YtknbejjfejdppaaGreatAbInsert
import Derived.Test.YtknbejjfejdppaaGreatFStakeB
import Derived.Test.YtknbejjfejdppaaGreatFStakeA
import Derived.Test.YtknbejjfejdppaaGreatFRefB
import Derived.Test.YtknbejjfejdppaaGreatFRefA
import Derived.Test.YtknbejjfejdppaaGreatFProvLaw
namespace Go.Proofs.YtknbejjfejdppaaGreat.Ab
open Go Go.RowKit
set_option linter.unusedVariables false
set_option linter.unusedSimpArgs false

abbrev lineOf (L : Links) (c : Int) : Line := ⟨L.Said.get c, L.Due.get c, L.Got.get c, L.Closed.get c⟩
def okLk (p : Provider) (c : Int) : Bool := !(p.Links.On.get c && p.Links.Gone.get c) && decide (0 ≤ p.Links.Base.get c) && decide (p.Links.Base.get c ≤ p.Height) && powsOk 1 (-1) (p.Links.Told.get c) && decide (GoodL (lineOf p.Links c)) && doneOk (-1) (p.Links.Done.get c)
def askOk (p : Provider) (a : Asked) : Bool := decide (0 ≤ a.C) && decide (a.C < 2) && p.Links.On.get a.C && (goodP a.P == 0) && !(a.P.Kind == 1)
def numsPr (p : Provider) : Prop := 0 ≤ p.Height ∧ p.Height < 1099511627776 ∧ 0 ≤ p.Time ∧ p.Time ≤ 1099511627776
instance (p : Provider) : Decidable (numsPr p) := inferInstanceAs (Decidable (_ ∧ _))
def GoodPr (p : Provider) : Bool := decide (GoodS p.Stake) && decide (numsPr p) && powsOk 1 (-1) p.Set && okLk p 0 && okLk p 1 && p.Queue.all (askOk p)

/-- All that is in it is small enough to be copied. -/
structure FitPr (R : Nat) (p : Provider) : Prop where
  waits : p.Stake.Waits.length * 64 ≤ R
  set : p.Set.length * 16 ≤ R
  told : ∀ c, (p.Links.Told.get c).length * 16 ≤ R
  done : ∀ c, (p.Links.Done.get c).length * 8 ≤ R
  said : ∀ c, (p.Links.Said.get c).length * 16 ≤ R
  due : ∀ c, (p.Links.Due.get c).length * 8 ≤ R
  queue : p.Queue.length * 88 ≤ R
  ps : ∀ a, a ∈ p.Queue → a.P.Set.length * 16 ≤ R ∧ a.P.Done.length * 8 ≤ R

theorem prov_done {L : Links} {c : Int} {p : Provider} {k : Link} {l : List Int} (hp : k.Done = l) (hl : l.length ≤ 9223372036854775807) :
    ∃ r, sh_provider_Good_l1 L c l l.length 0 p k = some r ∧ (match r with | .inl b => b = false ∧ doneOk (-1) l = false | .inr x => x = (L, c, p) ∧ doneOk (-1) l = true) := by
  have := iter_rel (F := fun s : Links × Int × (List Int) × Int × Int × Provider × Link => (T_provider_Good_l1 s.1 s.2.1 s.2.2.1 s.2.2.2.1 s.2.2.2.2.1 s.2.2.2.2.2.1 s.2.2.2.2.2.2).run)
    (fun s => s.1 = L ∧ s.2.1 = c ∧ s.2.2.1 = l ∧ s.2.2.2.1 = l.length ∧ 0 ≤ s.2.2.2.2.1 ∧ s.2.2.2.2.1 ≤ l.length ∧ s.2.2.2.2.2.1 = p ∧ s.2.2.2.2.2.2 = k ∧ (0 < s.2.2.2.2.1 → 0 ≤ prevN l s.2.2.2.2.1)) (fun s => l.length - s.2.2.2.2.1.toNat)
    (fun s r => match r with | .inl b => b = false ∧ doneOk (prevN l s.2.2.2.2.1) (l.drop s.2.2.2.2.1.toNat) = false | .inr x => x = (L, c, p) ∧ doneOk (prevN l s.2.2.2.2.1) (l.drop s.2.2.2.2.1.toNat) = true) ?_ (L, c, l, (l.length : Int), 0, p, k) ⟨rfl, rfl, rfl, rfl, by simp, by simp, rfl, rfl, by simp⟩
  · exact this
  · rintro ⟨y0, y1, x0, x1, x2, x3, x4⟩ ⟨g1, g2, h1, h2, h3, h4, h5, g3, h6⟩
    simp only at g1 g2 g3 h1 h2 h3 h4 h5 h6
    rw [g1, g2, g3, h1, h2, h5] at *
    simp only [T_provider_Good_l1, hp]
    by_cases hc : x2 < l.length
    · have hs := drop_step (l := l) (k := x2.toNat) (by omega) 0
      rw [Tr.run_true (by simpa using hc), Tr.run_guard ⟨h3, hc⟩, Tr.run_guard (by
        intro h _
        simp only [decide_eq_true_eq] at h
        rw [i64_in (x := x2 - 1) (by omega) (by omega)]
        exact ⟨⟨by omega, by simp only [Sl.len]; omega⟩, trivial⟩)]
      rw [hs]
      have hp : (decide (x2 > 0) && decide (l.getD (IntKind.i64.wrap (x2 - 1)).toNat 0 ≥ l.getD x2.toNat 0)) = (decide (x2 > 0) && decide (prevN l x2 ≥ l.getD x2.toNat 0)) := by
        by_cases h0 : x2 > 0
        · rw [i64_in (x := x2 - 1) (by omega) (by omega)]
          unfold prevN
          rw [if_neg (by omega)]
        · simp [h0]
      rw [hp]
      generalize hq : l.getD x2.toNat 0 = q at *
      by_cases hd : prevN l x2 < q ∧ q ≤ 5
      · obtain ⟨d1, d2⟩ := hd
        have hw : IntKind.i64.wrap (x2 + 1) = x2 + 1 := i64_in (by omega) (by omega)
        have hpv : prevN l (x2 + 1) = q := by unfold prevN; rw [if_neg (by omega), show x2 + 1 - 1 = x2 by omega, hq]
        have hq0 : 0 ≤ q := by
          by_cases h0 : x2 > 0
          · have := h6 h0; omega
          · have : prevN l x2 = -1 := by unfold prevN; rw [if_pos (by omega)]
            omega
        refine .inl ⟨_, by rw [Tr.run_false (by simp; omega), Tr.run_leaf, hw], ⟨rfl, rfl, rfl, rfl, ?_, ?_, rfl, rfl, ?_⟩, ?_, ?_⟩
        · simp only []; omega
        · simp only []; omega
        · simp only []; rw [hpv]; intro _; omega
        · simp only []; omega
        · simp only []
          rw [hpv, show (x2 + 1).toNat = x2.toNat + 1 by omega]
          intro r hr
          rw [doneOk, decide_eq_true d1, decide_eq_true d2]
          simpa using hr
      · refine .inr ⟨_, by rw [Tr.run_true (by
          by_cases h0 : x2 > 0
          · have := h6 h0
            simp [h0]; omega
          · have : prevN l x2 = -1 := by unfold prevN; rw [if_pos (by omega)]
            simp [h0]; omega), Tr.run_leaf], ?_⟩
        refine ⟨rfl, ?_⟩
        rw [doneOk]
        simp only [Bool.and_eq_false_iff, decide_eq_false_iff_not]
        omega
    · refine .inr ⟨_, by rw [Tr.run_false (by simpa using hc), Tr.run_leaf], ?_⟩
      refine ⟨rfl, ?_⟩
      rw [List.drop_eq_nil_of_le (by omega)]; rfl

theorem prov_set {l : List Power} (hl : l.length ≤ 9223372036854775807) :
    ∃ r, sh_provider_set_l1 l l l.length 0 = some r ∧ (match r with | .inl b => b = false ∧ powsOk 1 (-1) l = false | .inr x => powsOk 1 (-1) l = true) := by
  have := iter_rel (F := fun s : (List Power) × (List Power) × Int × Int => (T_provider_set_l1 s.1 s.2.1 s.2.2.1 s.2.2.2).run)
    (fun s => s.1 = l ∧ s.2.1 = l ∧ s.2.2.1 = l.length ∧ 0 ≤ s.2.2.2 ∧ s.2.2.2 ≤ l.length ∧ -1 ≤ prevV l s.2.2.2 ∧ (0 < s.2.2.2 → 0 ≤ prevV l s.2.2.2)) (fun s => l.length - s.2.2.2.toNat)
    (fun s r => match r with | .inl b => b = false ∧ powsOk 1 (prevV l s.2.2.2) (l.drop s.2.2.2.toNat) = false | .inr x => powsOk 1 (prevV l s.2.2.2) (l.drop s.2.2.2.toNat) = true) ?_ (l, l, (l.length : Int), 0) ⟨rfl, rfl, rfl, by simp, by simp, by simp [prevV], by simp⟩
  · exact this
  · rintro ⟨y0, x0, x1, x2⟩ ⟨g1, h1, h2, h3, h4, h6, h7⟩
    simp only at g1 h1 h2 h3 h4 h6 h7
    rw [g1, h1, h2] at *
    simp only [T_provider_set_l1]
    by_cases hc : x2 < l.length
    · have hs := drop_step (l := l) (k := x2.toNat) (by omega) default
      rw [Tr.run_true (by simpa using hc), Tr.run_guard ⟨h3, hc⟩, Tr.run_guard (by
        intro h _
        simp only [decide_eq_true_eq] at h
        rw [i64_in (x := x2 - 1) (by omega) (by omega)]
        exact ⟨⟨by omega, by simp only [Sl.len]; omega⟩, trivial⟩)]
      rw [hs]
      have hp : (decide (x2 > 0) && decide ((l.getD (IntKind.i64.wrap (x2 - 1)).toNat default).V ≥ (l.getD x2.toNat default).V)) = (decide (x2 > 0) && decide (prevV l x2 ≥ (l.getD x2.toNat default).V)) := by
        by_cases h0 : x2 > 0
        · rw [i64_in (x := x2 - 1) (by omega) (by omega)]
          unfold prevV
          rw [if_neg (by omega)]
        · simp [h0]
      rw [hp]
      generalize hq : l.getD x2.toNat default = q at *
      by_cases hd : prevV l x2 < q.V ∧ q.V ≤ 5 ∧ 1 ≤ q.N ∧ q.N ≤ 1125899906842624
      · obtain ⟨d1, d2, d3, d4⟩ := hd
        have hw : IntKind.i64.wrap (x2 + 1) = x2 + 1 := i64_in (by omega) (by omega)
        have hpv : prevV l (x2 + 1) = q.V := by unfold prevV; rw [if_neg (by omega), show x2 + 1 - 1 = x2 by omega, hq]
        refine .inl ⟨_, by rw [Tr.run_false (by simp; omega), Tr.run_leaf, hw], ⟨rfl, rfl, rfl, ?_, ?_, ?_, ?_⟩, ?_, ?_⟩
        · simp only []; omega
        · simp only []; omega
        · simp only []; rw [hpv]; omega
        · simp only []; rw [hpv]; intro _; omega
        · simp only []; omega
        · simp only []
          rw [hpv, show (x2 + 1).toNat = x2.toNat + 1 by omega]
          intro r hr
          rw [powsOk, decide_eq_true d1, decide_eq_true d2, decide_eq_true d3, decide_eq_true d4]
          simpa using hr
      · refine .inr ⟨_, by rw [Tr.run_true (by
          by_cases h0 : x2 > 0
          · have := h7 h0
            simp [h0]; omega
          · have : prevV l x2 = -1 := by unfold prevV; rw [if_pos (by omega)]
            simp [h0]; omega), Tr.run_leaf], ?_⟩
        refine ⟨rfl, ?_⟩
        rw [powsOk]
        simp only [Bool.and_eq_false_iff, decide_eq_false_iff_not]
        omega
    · refine .inr ⟨_, by rw [Tr.run_false (by simpa using hc), Tr.run_leaf], ?_⟩
      rw [List.drop_eq_nil_of_le (by omega)]; rfl

theorem pl_provset {l : List Power} (hl : l.length ≤ 9223372036854775807) : sh_provider_set l = some (powsOk 1 (-1) l) := by
  obtain ⟨r, h1, h2⟩ := prov_set hl
  rw [sh_provider_set, T_provider_set]
  cases r with
  | inl b => rw [Tr.run_inl h1, Tr.run_leaf, h2.1, h2.2]
  | inr x => rw [Tr.run_inr h1, Tr.run_leaf, h2]

theorem pl_ask {p : Provider} {a : Asked} (h : a.P.Set.length * 16 ≤ 140737488351232 ∧ a.P.Done.length * 8 ≤ 140737488351232) : sh_provider_Good_1 a p = some (!askOk p a, p) := by
  rw [sh_provider_Good_1, T_provider_Good_1, Tr.run_guard (by
    intro h0
    simp only [Bool.or_eq_false_iff, decide_eq_false_iff_not] at h0
    exact ⟨⟨by omega, by omega⟩, trivial⟩), Tr.run_guard (fun _ => ⟨by rw [pl_goodP h.1 h.2]; rfl, trivial⟩), Tr.run_leaf, pl_goodP h.1 h.2]
  congr 2
  unfold askOk
  simp only [Option.getD_some]
  have e1 : decide (a.C < 0) = !decide (0 ≤ a.C) := by rw [← decide_not]; congr 1; exact propext ⟨fun h => by omega, fun h => by omega⟩
  have e2 : decide (a.C ≥ 2) = !decide (a.C < 2) := by rw [← decide_not]; congr 1; exact propext ⟨fun h => by omega, fun h => by omega⟩
  rw [e1, e2]
  simp only [Bool.not_and, Bool.not_not]
  rfl

theorem ask_all {l : List Asked} {p : Provider} (hl : l.length ≤ 9223372036854775807) (hp : ∀ a, a ∈ l → a.P.Set.length * 16 ≤ 140737488351232 ∧ a.P.Done.length * 8 ≤ 140737488351232) :
    sh_slices_ContainsFunc_api_Asked l p = some (!l.all (askOk p), p) := by
  obtain ⟨r, h1, h2⟩ := iter_upto (F := fun s : (List Asked) × Int × Int × Provider => (T_slices_IndexFunc_api_Asked_g_l1 s.1 s.2.1 s.2.2.1 s.2.2.2).run) l.length
    (fun i (_ : Unit) => (l, (l.length : Int), (i : Int), p)) (fun i _ => True) (fun i _ r => match r with | .inl k => (0 ≤ k.1 ∧ k.2 = p) ∧ (l.drop i).all (askOk p) = false | .inr q => q = p ∧ (l.drop i).all (askOk p) = true) (by
      intro t _
      refine ⟨.inr p, ?_, rfl, ?_⟩
      · simp only [T_slices_IndexFunc_api_Asked_g_l1]; rw [Tr.run_false (by simp), Tr.run_leaf]
      · rw [List.drop_length]; rfl) (by
      intro i t hi _
      have hs := drop_step (l := l) (k := i) hi default
      have hm := getD_mem (l := l) (k := i) hi default
      simp only [T_slices_IndexFunc_api_Asked_g_l1, Int.toNat_natCast]
      rw [Tr.run_true (by simpa using hi), Tr.run_guard ⟨by omega, by show (i : Int) < (l.length : Nat); omega⟩, Tr.run_bind (pl_ask (hp _ hm)), hs]
      simp only [List.all_cons]
      obtain ⟨b, hb⟩ : ∃ b, b = askOk p (l.getD i default) := ⟨_, rfl⟩
      rw [← hb]
      cases b with
      | true =>
        refine .inl ⟨(), ?_, trivial, ?_⟩
        · rw [Tr.run_false (show (!true) = false from rfl), Tr.run_leaf, i64_nat (by omega)]
        · intro r hr
          cases r with
          | inl x => exact ⟨hr.1, by rw [hr.2]; rfl⟩
          | inr x => rw [Bool.true_and]; exact hr
      | false =>
        refine .inr ⟨.inl (i, p), ?_, ⟨by simp only []; omega, rfl⟩, by rfl⟩
        rw [Tr.run_true (show (!false) = true from rfl), Tr.run_leaf]) 0 () (by omega) trivial
  have h1 : sh_slices_IndexFunc_api_Asked_g_l1 l l.length 0 p = some r := h1
  rw [sh_slices_ContainsFunc_api_Asked, T_slices_ContainsFunc_api_Asked]
  cases r with
  | inl k =>
    simp only [List.drop_zero] at h2
    rw [Tr.run_bind (v := k) (by rw [sh_slices_IndexFunc_api_Asked_g, T_slices_IndexFunc_api_Asked_g, Tr.run_inl h1, Tr.run_leaf]), Tr.run_leaf, h2.2, h2.1.2]
    simp [h2.1.1]
  | inr k =>
    simp only [List.drop_zero] at h2
    rw [Tr.run_bind (v := (-1, k)) (by rw [sh_slices_IndexFunc_api_Asked_g, T_slices_IndexFunc_api_Asked_g, Tr.run_inr h1, Tr.run_leaf]), Tr.run_leaf, h2.2, h2.1]
    rfl

theorem bool5 (x y b c d e : Bool) : (((((x && y) || !b) || !c) || !d) || !e) = !(!(x && y) && b && c && d && e) := by
  cases x <;> cases y <;> cases b <;> cases c <;> cases d <;> cases e <;> rfl

/-- One turn of Good's row of links. -/
theorem good_turn {p : Provider} (hf : FitPr 140737488351232 p) {c : Nat} (hc : c < 2) :
    (T_provider_Good_l2 p.Links c p).run = some (if okLk p c = true then .inl (p.Links, ((c + 1 : Nat) : Int), p) else .inr (.inl false)) := by
  simp only [T_provider_Good_l2]
  have ht := hf.told c
  have hd := hf.done c
  rw [Tr.run_true (by simp; omega), Tr.run_guard ⟨by omega, by omega⟩, Tr.run_guard (fun _ => ⟨by rw [pl_provset (by omega)]; rfl, trivial⟩), Tr.run_guard (fun _ => ⟨by rw [pl_Good]; rfl, trivial⟩), pl_provset (by omega), pl_Good]
  simp only [Option.getD_some]
  have e : ((((((p.Links.On.get (c : Int)) && (p.Links.Gone.get (c : Int))) || (decide ((p.Links.Base.get (c : Int)) < 0))) || (decide ((p.Links.Base.get (c : Int)) > p.Height))) || (!powsOk 1 (-1) (p.Links.Told.get (c : Int)))) || (!decide (GoodL (lineOf p.Links c)))) =
      !(!(p.Links.On.get (c : Int) && p.Links.Gone.get (c : Int)) && decide (0 ≤ p.Links.Base.get (c : Int)) && decide (p.Links.Base.get (c : Int) ≤ p.Height) && powsOk 1 (-1) (p.Links.Told.get (c : Int)) && decide (GoodL (lineOf p.Links c))) := by
    have e1 : decide (p.Links.Base.get (c : Int) < 0) = !decide (0 ≤ p.Links.Base.get (c : Int)) := by rw [← decide_not]; congr 1; exact propext ⟨fun h => by omega, fun h => by omega⟩
    have e2 : decide (p.Links.Base.get (c : Int) > p.Height) = !decide (p.Links.Base.get (c : Int) ≤ p.Height) := by rw [← decide_not]; congr 1; exact propext ⟨fun h => by omega, fun h => by omega⟩
    rw [e1, e2]
    exact bool5 _ _ _ _ _ _
  rw [show lineOf p.Links (c : Int) = (⟨p.Links.Said.get (c : Int), p.Links.Due.get (c : Int), p.Links.Got.get (c : Int), p.Links.Closed.get (c : Int)⟩ : Line) from rfl] at e
  rw [e]
  unfold okLk
  rw [show lineOf p.Links (c : Int) = (⟨p.Links.Said.get (c : Int), p.Links.Due.get (c : Int), p.Links.Got.get (c : Int), p.Links.Closed.get (c : Int)⟩ : Line) from rfl]
  generalize (!(p.Links.On.get (c : Int) && p.Links.Gone.get (c : Int)) && decide (0 ≤ p.Links.Base.get (c : Int)) && decide (p.Links.Base.get (c : Int) ≤ p.Height) && powsOk 1 (-1) (p.Links.Told.get (c : Int)) && decide (GoodL (⟨p.Links.Said.get (c : Int), p.Links.Due.get (c : Int), p.Links.Got.get (c : Int), p.Links.Closed.get (c : Int)⟩ : Line))) = b
  cases b with
  | false => rw [Tr.run_true (show (!false) = true from rfl), Tr.run_leaf]; rfl
  | true =>
    rw [Tr.run_false (show (!true) = false from rfl)]
    obtain ⟨r, h1, h2⟩ := prov_done (L := p.Links) (c := (c : Int)) (p := p) (k := ⟨p.Links.On.get c, p.Links.Gone.get c, p.Links.Base.get c, p.Links.Told.get c, p.Links.Fresh.get c, p.Links.Done.get c, ⟨p.Links.Said.get c, p.Links.Due.get c, p.Links.Got.get c, p.Links.Closed.get c⟩, ⟨p.Links.SHeight.get c, p.Links.STime.get c, p.Links.SSaid.get c, p.Links.SGot.get c⟩⟩)
      (l := p.Links.Done.get c) rfl (by omega)
    cases r with
    | inl b => rw [Tr.run_inl h1, Tr.run_leaf, h2.1, h2.2]; rfl
    | inr x => rw [Tr.run_inr h1, Tr.run_leaf, h2.1, h2.2, i64_nat (by omega)]; rfl

theorem pl_provGood {p : Provider} (hf : FitPr 140737488351232 p) : sh_provider_Good p = some (GoodPr p) := by
  have hs := hf.set
  have hq := hf.queue
  have loop : sh_provider_Good_l2 p.Links 0 p = some (if okLk p 0 = true then (if okLk p 1 = true then .inr p else .inl false) else .inl false) := by
    rw [sh_provider_Good_l2]
    have t0 := good_turn hf (c := 0) (by omega)
    have t1 := good_turn hf (c := 1) (by omega)
    simp only [Int.ofNat_zero, Nat.zero_add, Int.ofNat_one] at t0 t1
    by_cases h0 : okLk p 0 = true
    · rw [if_pos h0] at t0 ⊢
      rw [iter_inl0 (s' := (p.Links, ((1 : Nat) : Int), p)) t0]
      by_cases h1 : okLk p 1 = true
      · rw [if_pos h1] at t1 ⊢
        rw [iter_inl0 (s' := (p.Links, ((2 : Nat) : Int), p)) t1, iter_inr0 (r := .inr p) (by
          show (T_provider_Good_l2 p.Links 2 p).run = _
          simp only [T_provider_Good_l2]
          rw [Tr.run_false (by simp), Tr.run_leaf])]
      · rw [if_neg h1] at t1 ⊢
        rw [iter_inr0 (r := .inl false) t1]
    · rw [if_neg h0] at t0 ⊢
      rw [iter_inr0 (r := .inl false) t0]
  rw [sh_provider_Good, T_provider_Good, Tr.run_bind (pl_stakeGood p.Stake), Tr.run_guard (fun _ => ⟨by rw [pl_provset (by omega)]; rfl, trivial⟩), pl_provset (by omega)]
  simp only [Option.getD_some]
  have e : ((((((!decide (GoodS p.Stake)) || (decide (p.Height < 0))) || (decide (p.Height ≥ 1099511627776))) || (decide (p.Time < 0))) || (decide (p.Time > 1099511627776))) || (!powsOk 1 (-1) p.Set)) = !(decide (GoodS p.Stake) && decide (numsPr p) && powsOk 1 (-1) p.Set) := by
    rw [Bool.eq_iff_iff]
    simp only [Bool.or_eq_true, Bool.not_eq_true', decide_eq_false_iff_not, decide_eq_true_eq, Bool.and_eq_false_iff]
    unfold numsPr
    constructor
    · rintro (((((h | h) | h) | h) | h) | h)
      · exact .inl (.inl h)
      · exact .inl (.inr (by omega))
      · exact .inl (.inr (by omega))
      · exact .inl (.inr (by omega))
      · exact .inl (.inr (by omega))
      · exact .inr h
    · rintro ((h | h) | h)
      · exact .inl (.inl (.inl (.inl (.inl h))))
      · rcases (show p.Height < 0 ∨ p.Height ≥ 1099511627776 ∨ p.Time < 0 ∨ p.Time > 1099511627776 by omega) with k | k | k | k
        · exact .inl (.inl (.inl (.inl (.inr k))))
        · exact .inl (.inl (.inl (.inr k)))
        · exact .inl (.inl (.inr k))
        · exact .inl (.inr k)
      · exact .inr h
  rw [e]
  unfold GoodPr
  generalize (decide (GoodS p.Stake) && decide (numsPr p) && powsOk 1 (-1) p.Set) = b
  cases b with
  | false => rw [Tr.run_true (show (!false) = true from rfl), Tr.run_leaf]; rfl
  | true =>
    rw [Tr.run_false (show (!true) = false from rfl)]
    by_cases h0 : okLk p 0 = true
    · rw [if_pos h0] at loop
      by_cases h1 : okLk p 1 = true
      · rw [if_pos h1] at loop
        rw [Tr.run_inr loop, Tr.run_bind (ask_all (by omega) hf.ps), Tr.run_leaf, h0, h1]
        simp
      · rw [if_neg h1] at loop
        rw [Tr.run_inl loop, Tr.run_leaf, h0, Bool.eq_false_iff.2 h1]
        rfl
    · rw [if_neg h0] at loop
      rw [Tr.run_inl loop, Tr.run_leaf, Bool.eq_false_iff.2 h0]
      rfl

end Go.Proofs.YtknbejjfejdppaaGreat.Ab

namespace Go.Proofs.YtknbejjfejdppaaGreat.Ab
open Go Go.RowKit
set_option linter.unusedVariables false
set_option linter.unusedSimpArgs false

/-! Copies. -/

/-! Sameness. -/

/-- Rows of places that there may be. -/
structure LenPr (p : Provider) : Prop where
  waits : p.Stake.Waits.length ≤ 9223372036854775807
  set : p.Set.length ≤ 9223372036854775807
  told : ∀ c, (p.Links.Told.get c).length ≤ 9223372036854775807
  done : ∀ c, (p.Links.Done.get c).length ≤ 9223372036854775807
  said : ∀ c, (p.Links.Said.get c).length ≤ 9223372036854775807
  due : ∀ c, (p.Links.Due.get c).length ≤ 9223372036854775807
  queue : p.Queue.length ≤ 9223372036854775807
  ps : ∀ a, a ∈ p.Queue → a.P.Set.length ≤ 9223372036854775807 ∧ a.P.Done.length ≤ 9223372036854775807

theorem FitPr.len {R : Nat} {p : Provider} (h : FitPr R p) (hR : R ≤ 9223372036854775807) : LenPr p :=
  ⟨by have := h.waits; omega, by have := h.set; omega, fun c => by have := h.told c; omega, fun c => by have := h.done c; omega, fun c => by have := h.said c; omega, fun c => by have := h.due c; omega, by have := h.queue; omega,
    fun a ha => by have := h.ps a ha; omega⟩

end Go.Proofs.YtknbejjfejdppaaGreat.Ab

namespace Go.Proofs.YtknbejjfejdppaaGreat.Ab
open Go Go.RowKit
set_option linter.unusedVariables false
set_option linter.unusedSimpArgs false

theorem run_nt {α : Type} {t e : Tr α} : (Tr.ite (!true) t e).run = e.run := Tr.run_false (show (!true) = false from rfl)
theorem run_nf {α : Type} {t e : Tr α} : (Tr.ite (!false) t e).run = t.run := Tr.run_true (show (!false) = true from rfl)

def newM (x t : Int) : Meter := ⟨if x < 5 then 1 else x / 5, IntKind.i64.wrap (t + 10)⟩
def tickM (m : Meter) (x t : Int) : Meter := if m.Next ≤ t then newM x t else m
def takeM (m : Meter) (n : Int) : Meter × Bool := if m.Left ≤ 0 then (m, false) else (⟨IntKind.i64.wrap (m.Left - n), m.Next⟩, true)

theorem pl_NewM {x t : Int} (hx : i64 x) : sh_meter_New x t = some (newM x t) := by
  have h : sh_meter_Allowance x = some (if x < 5 then 1 else x / 5) := by
    rw [sh_meter_Allowance, T_meter_Allowance, Tr.run_guard (by decide), Tr.run_leaf]
    unfold i64 at hx
    by_cases h5 : x < 5
    · have : Int.tdiv x 5 < 1 := by
        by_cases h0 : 0 ≤ x
        · rw [Int.tdiv_eq_ediv_of_nonneg h0]; omega
        · have : Int.tdiv x 5 ≤ 0 := by
            have h1 : Int.tdiv (-x) 5 = - Int.tdiv x 5 := Int.neg_tdiv x 5
            rw [Int.tdiv_eq_ediv_of_nonneg (by omega)] at h1
            omega
          omega
      have hl : -9223372036854775808 ≤ Int.tdiv x 5 := by
        by_cases h0 : 0 ≤ x
        · rw [Int.tdiv_eq_ediv_of_nonneg h0]; omega
        · have h1 : Int.tdiv (-x) 5 = - Int.tdiv x 5 := Int.neg_tdiv x 5
          rw [Int.tdiv_eq_ediv_of_nonneg (by omega)] at h1
          omega
      rw [i64_in (by omega) (by omega), if_neg (by omega), if_pos h5]
    · rw [Int.tdiv_eq_ediv_of_nonneg (by omega), i64_in (by omega) (by omega), if_neg h5]
      split
      · rfl
      · congr 1; omega
  rw [sh_meter_New, T_meter_New, Tr.run_bind h, Tr.run_leaf]; rfl

theorem pl_TickM {m : Meter} {x t : Int} (hx : i64 x) : sh_meter_Tick m x t = some (tickM m x t) := by
  rw [sh_meter_Tick, T_meter_Tick]
  unfold tickM
  by_cases h : m.Next ≤ t
  · rw [Tr.run_true (by simpa using h), Tr.run_bind (pl_NewM hx), Tr.run_leaf, if_pos h]
  · rw [Tr.run_false (by simpa using h), Tr.run_leaf, if_neg h]
theorem pl_TakeM {m : Meter} {n : Int} : sh_meter_Take m n = some (takeM m n) := by
  rw [sh_meter_Take, T_meter_Take]
  unfold takeM
  by_cases h : m.Left ≤ 0
  · rw [Tr.run_true (by simpa using h), Tr.run_leaf, if_pos h]
  · rw [Tr.run_false (by simpa using h), Tr.run_leaf, if_neg h]
def newPr : Provider := ⟨0, 0, newS, [], default, newM 0 0, []⟩
theorem pl_provNew : sh_provider_New = some newPr := by
  rw [sh_provider_New, T_provider_New, Tr.run_bind pl_stakeNew, Tr.run_bind (pl_NewM (by unfold i64; omega)), Tr.run_leaf]; rfl
def delegatePr (p : Provider) (d v n : Int) : Provider × Int :=
  if GoodPr p = true then (if (delegateS p.Stake d v n).2 ≠ 0 then (p, (delegateS p.Stake d v n).2) else ({ p with Stake := (delegateS p.Stake d v n).1 }, 0)) else (p, 2)

theorem pl_provDelegate {p : Provider} (hf : FitPr 140737488351232 p) {d v n : Int} (hn : n ≤ 9223372036854775807) : sh_provider_Delegate p d v n = some (delegatePr p d v n) := by
  rw [sh_provider_Delegate, T_provider_Delegate, Tr.run_bind (pl_provGood hf)]
  unfold delegatePr
  by_cases hg : GoodPr p = true
  · rw [hg, run_nt, if_pos rfl, Tr.run_bind (pl_Delegate hn)]
    by_cases h0 : (delegateS p.Stake d v n).2 ≠ 0
    · rw [Tr.run_true (by simpa using h0), Tr.run_leaf, if_pos h0]
    · rw [Tr.run_false (by simpa using h0), Tr.run_leaf, if_neg h0]
  · rw [Bool.eq_false_iff.2 hg, run_nf, Tr.run_leaf]; rfl
theorem goodPr_nums {p : Provider} (h : GoodPr p = true) : GoodS p.Stake ∧ numsPr p ∧ powsOk 1 (-1) p.Set = true ∧ okLk p 0 = true ∧ okLk p 1 = true ∧ p.Queue.all (askOk p) = true := by
  unfold GoodPr at h
  simp only [Bool.and_eq_true, decide_eq_true_eq] at h
  exact ⟨h.1.1.1.1.1, h.1.1.1.1.2, h.1.1.1.2, h.1.1.2, h.1.2, h.2⟩

end Go.Proofs.YtknbejjfejdppaaGreat.Ab

namespace Go.Proofs.YtknbejjfejdppaaGreat.Ab
open Go Go.RowKit
set_option linter.unusedVariables false
set_option linter.unusedSimpArgs false

theorem doneOk_pw : ∀ {l : List Int} {p : Int}, doneOk p l = true → (∀ q, q ∈ l → p < q ∧ q ≤ 5) ∧ l.Pairwise (· < ·)
  | [], p, h => ⟨by simp, .nil⟩
  | q :: l, p, h => by
    simp only [doneOk, Bool.and_eq_true, decide_eq_true_eq] at h
    obtain ⟨h1, h2⟩ := doneOk_pw h.2
    refine ⟨fun x hx => ?_, List.pairwise_cons.2 ⟨fun x hx => (h1 x hx).1, h2⟩⟩
    rcases List.mem_cons.1 hx with rfl | hx
    · exact h.1
    · have := h1 x hx; omega
theorem pw_doneOk : ∀ {l : List Int} {p : Int}, (∀ q, q ∈ l → p < q ∧ q ≤ 5) → l.Pairwise (· < ·) → doneOk p l = true
  | [], p, _, _ => rfl
  | q :: l, p, h1, h2 => by
    have hq := h1 q (List.mem_cons_self ..)
    rw [List.pairwise_cons] at h2
    simp only [doneOk, Bool.and_eq_true, decide_eq_true_eq]
    exact ⟨hq, pw_doneOk (fun x hx => ⟨h2.1 x hx, (h1 x (List.mem_cons_of_mem _ hx)).2⟩) h2.2⟩

theorem int_ext : ∀ {l m : List Int}, l.Pairwise (· < ·) → m.Pairwise (· < ·) → (∀ p, p ∈ l ↔ p ∈ m) → l = m
  | [], [], _, _, _ => rfl
  | [], b :: m, _, _, h => by have := (h b).2 (List.mem_cons_self ..); cases this
  | a :: l, [], _, _, h => by have := (h a).1 (List.mem_cons_self ..); cases this
  | a :: l, b :: m, hl, hm, h => by
    rw [List.pairwise_cons] at hl hm
    have hab : a = b := by
      rcases List.mem_cons.1 ((h a).1 (List.mem_cons_self ..)) with h1 | h1
      · exact h1
      · rcases List.mem_cons.1 ((h b).2 (List.mem_cons_self ..)) with h2 | h2
        · exact h2.symm
        · have k1 := hm.1 a h1
          have k2 := hl.1 b h2
          omega
    subst hab
    congr 1
    refine int_ext hl.2 hm.2 fun p => ⟨fun hp => ?_, fun hp => ?_⟩
    · rcases List.mem_cons.1 ((h p).1 (List.mem_cons_of_mem _ hp)) with h1 | h1
      · have := hl.1 p hp; omega
      · exact h1
    · rcases List.mem_cons.1 ((h p).2 (List.mem_cons_of_mem _ hp)) with h1 | h1
      · have := hm.1 p hp; omega
      · exact h1

theorem pl_less (a b : Int) : sh_cmp_Less_int a b = some (decide (a < b)) := by
  have h : ∀ x, sh_cmp_isNaN_int x = some false := fun x => by rw [sh_cmp_isNaN_int, T_cmp_isNaN_int, Tr.run_leaf]; simp
  rw [sh_cmp_Less_int, T_cmp_Less_int, Tr.run_bind (h a), Tr.run_guard (fun e => by cases e), Tr.run_leaf]
  simp
theorem pl_nan (x : Int) : sh_slices_isNaN_int x = some false := by rw [sh_slices_isNaN_int, T_slices_isNaN_int, Tr.run_leaf]; simp

theorem pw_getD {l : List Int} (h : l.Pairwise (· < ·)) {x y : Nat} (hxy : x < y) (hy : y < l.length) : l.getD x 0 < l.getD y 0 := by
  have := List.pairwise_iff_getElem.1 h x y (by omega) hy hxy
  rw [List.getD_eq_getElem?_getD, List.getD_eq_getElem?_getD, List.getElem?_eq_getElem hy, List.getElem?_eq_getElem (show x < l.length by omega)]
  exact this

/-- The place that a search finds. -/
def PlaceK (l : List Int) (v k : Int) : Prop := 0 ≤ k ∧ k ≤ l.length ∧ (∀ x : Nat, (x : Int) < k → l.getD x 0 < v) ∧ (∀ x : Nat, k ≤ x → x < l.length → v ≤ l.getD x 0)

theorem search_l1 {l : List Int} (hs : l.Pairwise (· < ·)) (hl : l.length ≤ 1000) (v : Int) :
    ∃ k, sh_slices_BinarySearch_int_l1 l v l.length 0 l.length = some (l, v, (l.length : Int), k) ∧ PlaceK l v k := by
  have := iter_rel (F := fun s : (List Int) × Int × Int × Int × Int => (T_slices_BinarySearch_int_l1 s.1 s.2.1 s.2.2.1 s.2.2.2.1 s.2.2.2.2).run)
    (fun s => s.1 = l ∧ s.2.1 = v ∧ s.2.2.1 = l.length ∧ (0 ≤ s.2.2.2.1 ∧ s.2.2.2.1 ≤ s.2.2.2.2 ∧ s.2.2.2.2 ≤ l.length) ∧ (∀ x : Nat, (x : Int) < s.2.2.2.1 → l.getD x 0 < v) ∧ (∀ x : Nat, s.2.2.2.2 ≤ x → x < l.length → v ≤ l.getD x 0))
    (fun s => (s.2.2.2.2 - s.2.2.2.1).toNat) (fun s r => ∃ k, r = (l, v, (l.length : Int), k) ∧ PlaceK l v k) ?_ (l, v, (l.length : Int), 0, (l.length : Int)) ⟨rfl, rfl, rfl, ⟨by simp, by simp, by simp⟩, by intro x hx; simp only [] at hx; omega, by intro x hx h2; simp only [] at hx; omega⟩
  · obtain ⟨r, h1, k, rfl, h3⟩ := this
    exact ⟨k, h1, h3⟩
  · rintro ⟨x0, x1, x2, i, j⟩ ⟨h1, h2, h3, ⟨h4, h5, h6⟩, h7, h8⟩
    simp only at h1 h2 h3 h4 h5 h6 h7 h8
    rw [h1, h2, h3] at *
    simp only [T_slices_BinarySearch_int_l1]
    by_cases hc : i < j
    · have hm : IntKind.i64.wrap (Int.fdiv (IntKind.u64.wrap (IntKind.i64.wrap (i + j))) (2 ^ 1)) = (i + j) / 2 := by
        rw [i64_in (x := i + j) (by omega) (by omega), u64_in (by omega) (by omega), Int.fdiv_eq_ediv_of_nonneg _ (by decide), i64_in (by omega) (by omega)]
        rfl
      rw [hm]
      generalize hmm : (i + j) / 2 = m
      have m1 : i ≤ m := by omega
      have m2 : m < j := by omega
      rw [Tr.run_true (by simpa using hc), Tr.run_guard (by decide), Tr.run_guard ⟨by omega, by show m < (l.length : Nat); omega⟩, Tr.run_bind (pl_less _ _)]
      by_cases hlt : l.getD m.toNat 0 < v
      · refine .inl ⟨(l, v, (l.length : Int), m + 1, j), by rw [Tr.run_true (by simpa using hlt), Tr.run_leaf, i64_in (by omega) (by omega)], ⟨rfl, rfl, rfl, ⟨by simp only []; omega, by simp only []; omega, by simp only []; omega⟩, ?_, h8⟩, by simp only []; omega, fun r hr => hr⟩
        intro x hx
        simp only [] at hx
        by_cases hxm : x = m.toNat
        · rw [hxm]; exact hlt
        · have := pw_getD hs (x := x) (y := m.toNat) (by omega) (by omega)
          omega
      · refine .inl ⟨(l, v, (l.length : Int), i, m), by rw [Tr.run_false (by simpa using hlt), Tr.run_leaf], ⟨rfl, rfl, rfl, ⟨by simp only []; omega, by simp only []; omega, by simp only []; omega⟩, h7, ?_⟩, by simp only []; omega, fun r hr => hr⟩
        intro x hx hx2
        simp only [] at hx
        by_cases hxm : x = m.toNat
        · rw [hxm]; omega
        · have := pw_getD hs (x := m.toNat) (y := x) (by omega) hx2
          omega
    · refine .inr ⟨(l, v, (l.length : Int), i), by rw [Tr.run_false (by simpa using hc), Tr.run_leaf], i, rfl, h4, by omega, h7, fun x hx => h8 x (by omega)⟩

theorem pl_search {l : List Int} (hs : l.Pairwise (· < ·)) (hl : l.length ≤ 1000) (v : Int) : ∃ k, sh_slices_BinarySearch_int l v = some (k, decide (v ∈ l)) ∧ PlaceK l v k := by
  obtain ⟨k, h1, h2⟩ := search_l1 hs hl v
  refine ⟨k, ?_, h2⟩
  obtain ⟨k0, k1, k2, k3⟩ := h2
  have hin : decide (k < (l.length : Int)) = true → (0 : Int) ≤ k ∧ k < ((Sl.len (.ints l) : Nat) : Int) := fun h => ⟨k0, by simpa [Sl.len] using h⟩
  rw [sh_slices_BinarySearch_int, T_slices_BinarySearch_int, Tr.run_bind h1]
  simp only []
  rw [Tr.run_guard (fun h => ⟨hin h, trivial⟩), Tr.run_guard (fun _ h => ⟨hin h, trivial⟩), Tr.run_guard (fun _ _ => ⟨by rw [pl_nan]; rfl, trivial⟩), Tr.run_guard (fun _ _ _ => ⟨by rw [pl_nan]; rfl, trivial⟩), Tr.run_leaf, pl_nan, pl_nan]
  simp only [Option.getD_some, Bool.and_false, Bool.or_false]
  congr 2
  rw [Bool.eq_iff_iff]
  simp only [Bool.and_eq_true, decide_eq_true_eq, beq_iff_eq]
  constructor
  · rintro ⟨hk, he⟩
    rw [← he]
    exact getD_mem (by omega) 0
  · intro hv
    obtain ⟨x, hx, he⟩ := List.getElem_of_mem hv
    have hg : l.getD x 0 = v := by rw [List.getD_eq_getElem?_getD, List.getElem?_eq_getElem hx]; exact he
    have hkx : k ≤ x := by
      rcases Int.lt_or_le (x : Int) k with h | h
      · have := k2 x h; omega
      · exact h
    refine ⟨by omega, ?_⟩
    have h3 := k3 k.toNat (by omega) (by omega)
    by_cases hxk : x = k.toNat
    · rw [← hxk]; exact hg
    · have := pw_getD hs (x := k.toNat) (y := x) (by omega) hx
      omega

def insD (l : List Int) (v : Int) : List Int := ((List.range 6).map (fun (u : Nat) => (u : Int))).filter (fun u => u == v || decide (u ∈ l))
theorem range_pw : ((List.range 6).map (fun (u : Nat) => (u : Int))).Pairwise (· < ·) := by decide
theorem insD_pw (l : List Int) (v : Int) : (insD l v).Pairwise (· < ·) := range_pw.sublist List.filter_sublist
theorem mem_range6 {u : Int} : u ∈ (List.range 6).map (fun (u : Nat) => (u : Int)) ↔ 0 ≤ u ∧ u ≤ 5 := by
  rw [List.mem_map]
  constructor
  · rintro ⟨x, hx, rfl⟩; rw [List.mem_range] at hx; omega
  · intro h; exact ⟨u.toNat, by rw [List.mem_range]; omega, by omega⟩
theorem mem_insD {l : List Int} {v u : Int} : u ∈ insD l v ↔ (0 ≤ u ∧ u ≤ 5) ∧ (u = v ∨ u ∈ l) := by
  unfold insD; rw [List.mem_filter, mem_range6]; simp
theorem insD_ok (l : List Int) (v : Int) : doneOk (-1) (insD l v) = true := pw_doneOk (fun q hq => by have := (mem_insD.1 hq).1; omega) (insD_pw l v)

theorem insD_in {l : List Int} {v : Int} (h : doneOk (-1) l = true) (hv : v ∈ l) : insD l v = l := by
  obtain ⟨h1, h2⟩ := doneOk_pw h
  refine int_ext (insD_pw l v) h2 fun u => ?_
  rw [mem_insD]
  constructor
  · rintro ⟨_, rfl | h⟩ <;> assumption
  · intro hu; have := h1 u hu; exact ⟨by omega, .inr hu⟩

theorem insD_out {l : List Int} {v k : Int} (h : doneOk (-1) l = true) (hv : v ∉ l) (hv5 : 0 ≤ v ∧ v ≤ 5) (hk : PlaceK l v k) : l.take k.toNat ++ [v] ++ l.drop k.toNat = insD l v := by
  obtain ⟨h1, h2⟩ := doneOk_pw h
  obtain ⟨k0, k1, k2, k3⟩ := hk
  have htake : ∀ x, x ∈ l.take k.toNat → x < v := by
    intro x hx
    obtain ⟨i, hi, rfl⟩ := List.getElem_of_mem hx
    rw [List.length_take] at hi
    have := k2 i (by omega)
    rw [List.getD_eq_getElem?_getD, List.getElem?_eq_getElem (by omega)] at this
    rw [List.getElem_take]; exact this
  have hdrop : ∀ x, x ∈ l.drop k.toNat → v < x := by
    intro x hx
    have hm : x ∈ l := List.mem_of_mem_drop hx
    obtain ⟨i, hi, rfl⟩ := List.getElem_of_mem hx
    rw [List.length_drop] at hi
    have := k3 (k.toNat + i) (by omega) (by omega)
    rw [List.getD_eq_getElem?_getD, List.getElem?_eq_getElem (by omega)] at this
    rw [List.getElem_drop] at hm ⊢
    have hne : l[k.toNat + i] ≠ v := fun e => hv (e ▸ hm)
    have h3 : v ≤ l[k.toNat + i] := this
    omega
  refine int_ext ?_ (insD_pw l v) fun u => ?_
  · rw [List.append_assoc, List.pairwise_append]
    refine ⟨h2.sublist (List.take_sublist _ _), ?_, ?_⟩
    · rw [List.singleton_append, List.pairwise_cons]
      exact ⟨hdrop, h2.sublist (List.drop_sublist _ _)⟩
    · intro a ha b hb
      rw [List.singleton_append] at hb
      rcases List.mem_cons.1 hb with rfl | hb
      · exact htake a ha
      · have := htake a ha; have := hdrop b hb; omega
  · rw [mem_insD, List.append_assoc, List.mem_append, List.singleton_append, List.mem_cons]
    constructor
    · rintro (hu | rfl | hu)
      · have hm := List.mem_of_mem_take hu
        have := h1 u hm
        exact ⟨by omega, .inr hm⟩
      · exact ⟨hv5, .inl rfl⟩
      · have hm := List.mem_of_mem_drop hu
        have := h1 u hm
        exact ⟨by omega, .inr hm⟩
    · rintro ⟨_, rfl | hu⟩
      · exact .inr (.inl rfl)
      · rw [← List.take_append_drop k.toNat l, List.mem_append] at hu
        exact hu.imp id .inr

end Go.Proofs.YtknbejjfejdppaaGreat.Ab

namespace Go.Proofs.YtknbejjfejdppaaGreat.Ab
open Go Go.RowKit
set_option linter.unusedVariables false
set_option linter.unusedSimpArgs false

def unitsOf (p : Provider) (v : Int) : Int := if (IntKind.i64.wrap (Int.tdiv (p.Stake.Validators.Tokens.get v) 100)) > 1 then (IntKind.i64.wrap (Int.tdiv (p.Stake.Validators.Tokens.get v) 100)) else 1
def pushD (p : Provider) (c v : Int) : Provider := { p with Links := { p.Links with Done := p.Links.Done.set c (insD (p.Links.Done.get c) v) } }
def fromH (p : Provider) (a : Asked) : Int := if (p.Links.Base.get a.C) > a.P.Id then (p.Links.Base.get a.C) else a.P.Id
def dealP (p : Provider) (a : Asked) : Provider × Bool :=
  if a.P.Kind = 2 then ({ p with Stake := releaseS p.Stake a.C a.P.Id }, true)
  else if a.P.Kind = 4 then (if p.Stake.Validators.Dead.get a.P.V = true then (p, true) else ({ p with Stake := (judgeS (slashS p.Stake a.P.V (fromH p a) 50).1 a.P.V 2).1 }, true))
  else if p.Stake.Validators.Jailed.get a.P.V = true then (pushD p a.C a.P.V, true)
  else if (takeM p.Meter (unitsOf p a.P.V)).2 = true then (pushD { p with Stake := (judgeS p.Stake a.P.V 0).1, Meter := (takeM p.Meter (unitsOf p a.P.V)).1 } a.C a.P.V, true)
  else (p, false)

/-- What can be dealt with. -/
structure AskFit (p : Provider) (a : Asked) : Prop where
  v : 0 ≤ a.P.V ∧ a.P.V ≤ 5
  c : 0 ≤ a.C ∧ a.C < 2
  k : a.P.Kind = 2 ∨ a.P.Kind = 3 ∨ a.P.Kind = 4
  w : p.Stake.Waits.length * 64 ≤ 140737488351232
  d : doneOk (-1) (p.Links.Done.get a.C) = true

theorem A2_set_same {α : Type} (a : A2 α) {c : Int} (hc : 0 ≤ c ∧ c < 2) : a.set c (a.get c) = a := by
  rcases (show c = 0 ∨ c = 1 by omega) with rfl | rfl <;> rfl

theorem done_len {l : List Int} (h : doneOk (-1) l = true) : l.length ≤ 6 := by
  have := doneOk_len h (by omega); omega

theorem push_in {p : Provider} {a : Asked} (hf : AskFit p a) (hv : a.P.V ∈ p.Links.Done.get a.C) : pushD p a.C a.P.V = p := by
  unfold pushD
  rw [insD_in hf.d hv, A2_set_same _ hf.c]

theorem pl_insert {l : List Int} {k v : Int} (hl : l.length ≤ 6) (hk : PlaceK l v k) : sh_slices_Insert_int l k [v] = some (l.take k.toNat ++ [v] ++ l.drop k.toNat) := by
  unfold sh_slices_Insert_int insP
  rw [if_pos ⟨hk.1, hk.2.1, by simp, by simp; omega⟩]

theorem pl_deal {p : Provider} {a : Asked} (hf : AskFit p a) : sh_provider_deal a p = some ((dealP p a).2, (dealP p a).1) := by
  obtain ⟨hv, hc, hk, hw, hd⟩ := hf
  have hl := done_len hd
  obtain ⟨pk, hs, hpl⟩ := pl_search (doneOk_pw hd).2 (by omega) a.P.V
  have hcl := pl_cloneI (l := p.Links.Done.get a.C) (by omega)
  have hin := pl_insert hl hpl
  have hmem : (!decide (a.P.V ∈ p.Links.Done.get a.C)) = true → (p.Links.Done.get a.C).take pk.toNat ++ [a.P.V] ++ (p.Links.Done.get a.C).drop pk.toNat = insD (p.Links.Done.get a.C) a.P.V := by
    intro h
    exact insD_out hd (by simpa using h) hv hpl
  rw [sh_provider_deal, T_provider_deal, Tr.run_guard ⟨by omega, by omega⟩, Tr.run_guard hc]
  unfold dealP
  by_cases k2 : a.P.Kind = 2
  · rw [Tr.run_true (by simpa using k2), Tr.run_guard (by rw [pl_Release hw]; rfl), Tr.run_leaf, pl_Release hw, if_pos k2]; rfl
  · rw [Tr.run_false (by simpa using k2), if_neg k2]
    by_cases k4 : a.P.Kind = 4
    · rw [if_pos k4, Tr.run_false (by rw [k4]; decide), Tr.run_true (by simpa using k4)]
      by_cases hdd : p.Stake.Validators.Dead.get a.P.V = true
      · rw [if_pos hdd, hdd, run_nt, Tr.run_leaf]
      · rw [if_neg hdd, Bool.eq_false_iff.2 hdd, run_nf, Tr.run_guard (by rw [pl_Slash]; rfl), pl_Slash]
        simp only [Option.getD_some]
        rw [Tr.run_guard (by rw [pl_Bury]; rfl), Tr.run_leaf, pl_Bury]; rfl
    · have k3 : a.P.Kind = 3 := by omega
      rw [if_neg k4, Tr.run_true (by simpa using k3)]
      by_cases hj : p.Stake.Validators.Jailed.get a.P.V = true
      · rw [if_pos hj, hj, run_nt, Tr.run_guard (by rw [hs]; rfl), hs]
        simp only [Option.getD_some]
        by_cases hm : a.P.V ∈ p.Links.Done.get a.C
        · rw [decide_eq_true hm, run_nt, Tr.run_leaf, push_in ⟨hv, hc, hk, hw, hd⟩ hm]
        · rw [decide_eq_false hm, run_nf, Tr.run_guard (by rw [hcl]; rfl), hcl]
          simp only [Option.getD_some]
          rw [Tr.run_guard (by rw [hin]; rfl), Tr.run_leaf, hin, Option.getD_some, hmem (by simpa using hm)]
          rfl
      · rw [if_neg hj, Bool.eq_false_iff.2 hj, run_nf, Tr.run_guard (by decide), Tr.run_guard (by rw [pl_TakeM]; rfl), pl_TakeM]
        simp only [Option.getD_some]
        rw [show (if (IntKind.i64.wrap (Int.tdiv (p.Stake.Validators.Tokens.get a.P.V) 100)) > 1 then (IntKind.i64.wrap (Int.tdiv (p.Stake.Validators.Tokens.get a.P.V) 100)) else 1) = unitsOf p a.P.V from rfl]
        by_cases ht : (takeM p.Meter (unitsOf p a.P.V)).2 = true
        · rw [if_pos ht, ht, run_nt, Tr.run_guard (by rw [pl_Jail]; rfl), Tr.run_guard (by rw [hs]; rfl), hs, pl_Jail]
          simp only [Option.getD_some]
          by_cases hm : a.P.V ∈ p.Links.Done.get a.C
          · rw [decide_eq_true hm, run_nt, Tr.run_leaf]
            have := push_in (p := { p with Stake := (judgeS p.Stake a.P.V 0).1, Meter := (takeM p.Meter (unitsOf p a.P.V)).1 }) (a := a) ⟨hv, hc, hk, by show (judgeS p.Stake a.P.V 0).1.Waits.length * 64 ≤ _; rw [judgeS_waits]; exact hw, hd⟩ hm
            rw [this]
          · rw [decide_eq_false hm, run_nf, Tr.run_guard (by rw [hcl]; rfl), hcl]
            simp only [Option.getD_some]
            rw [Tr.run_guard (by rw [hin]; rfl), Tr.run_leaf, hin, Option.getD_some, hmem (by simpa using hm)]
            rfl
        · rw [if_neg ht, Bool.eq_false_iff.2 ht, run_nf, Tr.run_leaf]

end Go.Proofs.YtknbejjfejdppaaGreat.Ab

namespace Go.Proofs.YtknbejjfejdppaaGreat.Ab
open Go Go.RowKit
set_option linter.unusedVariables false
set_option linter.unusedSimpArgs false

/-- A provider whose stake, whose done ones and whose meter are others. -/
def upP (p : Provider) (S : Stake) (D : A2 (List Int)) (M : Meter) : Provider := { p with Stake := S, Links := { p.Links with Done := D }, Meter := M }
def DealI (p0 p : Provider) : Prop := ∃ S D M, p = upP p0 S D M ∧ GoodS S ∧ doneOk (-1) D.x0 = true ∧ doneOk (-1) D.x1 = true

theorem DealI.get {p0 p : Provider} (h : DealI p0 p) {c : Int} : doneOk (-1) (p.Links.Done.get c) = true := by
  obtain ⟨S, D, M, rfl, _, h0, h1⟩ := h
  show doneOk (-1) (D.get c) = true
  unfold A2.get; split <;> assumption
theorem DealI.good {p0 p : Provider} (h : DealI p0 p) : GoodS p.Stake := by obtain ⟨S, D, M, rfl, h, _⟩ := h; exact h

theorem push_up {p0 : Provider} {S : Stake} {D : A2 (List Int)} {M : Meter} {c v : Int} (h0 : doneOk (-1) D.x0 = true) (h1 : doneOk (-1) D.x1 = true) : ∃ D', pushD (upP p0 S D M) c v = upP p0 S D' M ∧ doneOk (-1) D'.x0 = true ∧ doneOk (-1) D'.x1 = true := by
  refine ⟨D.set c (insD (D.get c) v), rfl, ?_, ?_⟩
  · show doneOk (-1) (if c = 0 then insD (D.get c) v else D.x0) = true
    split
    · exact insD_ok _ _
    · exact h0
  · show doneOk (-1) (if c = 1 then insD (D.get c) v else D.x1) = true
    split
    · exact insD_ok _ _
    · exact h1

theorem good_slashed {s : Stake} (hg : GoodS s) (v h f : Int) : GoodS (slashS s v h f).1 := (kept_slash hg v h f).1
theorem good_judged {s : Stake} (hg : GoodS s) (v : Int) {what : Int} (hw : what = 0 ∨ what = 1 ∨ what = 2) : GoodS (judgeS s v what).1 := (kept_judge hg v hw).1

theorem deal_inv {p0 p : Provider} (h : DealI p0 p) (a : Asked) : DealI p0 (dealP p a).1 := by
  obtain ⟨S, D, M, rfl, hS, h0, h1⟩ := h
  unfold dealP
  split
  · exact ⟨releaseS S a.C a.P.Id, D, M, rfl, good_release hS, h0, h1⟩
  · split
    · split
      · exact ⟨S, D, M, rfl, hS, h0, h1⟩
      · exact ⟨_, D, M, rfl, good_judged (good_slashed hS _ _ _) _ (.inr (.inr rfl)), h0, h1⟩
    · split
      · obtain ⟨D', e, k0, k1⟩ := push_up (p0 := p0) (S := S) (M := M) (c := a.C) (v := a.P.V) h0 h1
        exact ⟨S, D', M, e, hS, k0, k1⟩
      · split
        · obtain ⟨D', e, k0, k1⟩ := push_up (p0 := p0) (S := (judgeS S a.P.V 0).1) (M := (takeM M (unitsOf (upP p0 S D M) a.P.V)).1) (c := a.C) (v := a.P.V) h0 h1
          exact ⟨_, D', _, e, good_judged hS _ (.inl rfl), k0, k1⟩
        · exact ⟨S, D, M, rfl, hS, h0, h1⟩

def turnQ (t : Provider × A2 Bool × List Asked) (a : Asked) : Provider × A2 Bool × List Asked :=
  if t.2.1.get a.C = true then (t.1, t.2.1.set a.C true, t.2.2 ++ [a])
  else if (dealP t.1 a).2 = true then ((dealP t.1 a).1, t.2.1, t.2.2)
  else ((dealP t.1 a).1, t.2.1.set a.C true, t.2.2 ++ [a])

def TurnI (p0 : Provider) (i : Nat) (t : Provider × A2 Bool × List Asked) : Prop :=
  DealI p0 t.1 ∧ t.2.2.length ≤ i ∧ (∀ c : Int, 0 ≤ c ∧ c < 2 → t.2.1.get c = t.2.2.any (fun b => b.C == c)) ∧ ∀ b, b ∈ t.2.2 → b ∈ p0.Queue

theorem A2_get_set {α : Type} (a : A2 α) {i j : Int} (y : α) (hi : 0 ≤ i ∧ i < 2) (hj : 0 ≤ j ∧ j < 2) : (a.set i y).get j = if j = i then y else a.get j := by
  rcases (show i = 0 ∨ i = 1 by omega) with rfl | rfl <;> rcases (show j = 0 ∨ j = 1 by omega) with rfl | rfl <;> rfl

theorem turn_inv {p0 : Provider} {i : Nat} {t : Provider × A2 Bool × List Asked} (h : TurnI p0 i t) {a : Asked} (hc : 0 ≤ a.C ∧ a.C < 2) (ha : a ∈ p0.Queue) : TurnI p0 (i + 1) (turnQ t a) := by
  obtain ⟨h1, h2, h3, h4⟩ := h
  have more : ∀ p, DealI p0 p → TurnI p0 (i + 1) (p, t.2.1.set a.C true, t.2.2 ++ [a]) := by
    intro p hp
    refine ⟨hp, by simp; omega, fun c hcc => ?_, fun b hb => ?_⟩
    · show (t.2.1.set a.C true).get c = (t.2.2 ++ [a]).any (fun b => b.C == c)
      rw [A2_get_set _ _ hc hcc, List.any_append]
      by_cases e : c = a.C
      · rw [if_pos e]; simp [e]
      · rw [if_neg e, h3 c hcc]; simp [Ne.symm e]
    · rcases List.mem_append.1 hb with hb | hb
      · exact h4 b hb
      · rw [List.mem_singleton.1 hb]; exact ha
  unfold turnQ
  split
  · exact more _ h1
  · split
    · exact ⟨deal_inv h1 a, by simp only []; omega, h3, h4⟩
    · exact more _ (deal_inv h1 a)

theorem ask_fit {p0 p : Provider} (hp : DealI p0 p) {q : Provider} {a : Asked} (ha : askOk q a = true) : AskFit p a := by
  unfold askOk at ha
  simp only [Bool.and_eq_true, decide_eq_true_eq, beq_iff_eq, Bool.not_eq_true', beq_eq_false_iff_ne] at ha
  obtain ⟨⟨⟨⟨c0, c1⟩, _⟩, hg⟩, hk⟩ := ha
  have hf := good_facts hg
  exact ⟨⟨hf.2.2.2.2.1, hf.2.2.2.2.2.1⟩, ⟨c0, c1⟩, by omega, hp.good.fit, hp.get⟩

theorem end_loop {p0 : Provider} {q : Provider} {now : Int} {d : Provider} {l : List Asked} {p : Provider} (hp : DealI p0 p) (hl : l.length * 88 ≤ 140737488351232) (ha : ∀ a, a ∈ l → askOk q a = true ∧ a ∈ p0.Queue) :
    sh_provider_End_l1 now l l.length 0 p d ⟨false, false⟩ [] = some (now, (l.foldl turnQ (p, ⟨false, false⟩, [])).1, d, (l.foldl turnQ (p, ⟨false, false⟩, [])).2.2) := by
  rw [sh_provider_End_l1]
  have := loop_fold (F := fun s : Int × (List Asked) × Int × Int × Provider × Provider × (A2 Bool) × (List Asked) => (T_provider_End_l1 s.1 s.2.1 s.2.2.1 s.2.2.2.1 s.2.2.2.2.1 s.2.2.2.2.2.1 s.2.2.2.2.2.2.1 s.2.2.2.2.2.2.2).run) l default
    (fun i (t : Provider × A2 Bool × List Asked) => (now, l, (l.length : Int), (i : Int), t.1, d, t.2.1, t.2.2)) (TurnI p0) turnQ (fun t => (now, t.1, d, t.2.2)) (by
      intro t _
      simp only [T_provider_End_l1]
      rw [Tr.run_false (by simp), Tr.run_leaf]) (by
      intro i t hi hI
      obtain ⟨a1, a2⟩ := ha _ (getD_mem (l := l) (k := i) hi default)
      have hfit := ask_fit hI.1 a1
      refine ⟨?_, turn_inv hI hfit.c a2⟩
      have hlen := hI.2.1
      simp only [T_provider_End_l1, Int.toNat_natCast]
      rw [Tr.run_true (by simpa using hi), Tr.run_guard ⟨by omega, by show (i : Int) < (l.length : Nat); omega⟩, Tr.run_guard hfit.c]
      unfold turnQ
      by_cases hw : t.2.1.get (l.getD i default).C = true
      · rw [if_pos hw, Tr.run_true hw, Tr.run_true (show true = true from rfl), Tr.run_true (show true = true from rfl), Tr.run_true (show true = true from rfl)]
        rw [Tr.run_guard hfit.c, Tr.run_guard (by show (t.2.2.length + 1) * 88 ≤ _; omega), Tr.run_leaf, i64_nat (by omega)]
      · rw [if_neg hw, Tr.run_false (Bool.eq_false_iff.2 hw), Tr.run_bind (pl_deal hfit)]
        simp only []
        by_cases hd : (dealP t.1 (l.getD i default)).2 = true
        · rw [if_pos hd, Tr.run_false (by rw [hd]; rfl), Tr.run_leaf, i64_nat (by omega)]
        · rw [if_neg hd, Tr.run_true (by rw [Bool.eq_false_iff.2 hd]; rfl), Tr.run_guard hfit.c, Tr.run_guard (by show (t.2.2.length + 1) * 88 ≤ _; omega), Tr.run_leaf, i64_nat (by omega)]) (p, ⟨false, false⟩, []) ⟨hp, by simp, fun c hc => by rcases (show c = 0 ∨ c = 1 by omega) with rfl | rfl <;> rfl, fun b hb => by cases hb⟩
  exact this

end Go.Proofs.YtknbejjfejdppaaGreat.Ab

namespace Go.Proofs.YtknbejjfejdppaaGreat.Ab
open Go Go.RowKit
set_option linter.unusedVariables false
set_option linter.unusedSimpArgs false

def dOf (p : Provider) (c : Int) : List Power := diffOf (fP (p.Links.Told.get c)) (fP p.Set)
def pkOf (p : Provider) (c : Int) : Packet := ⟨1, p.Height, 0, 0, dOf p c, p.Links.Done.get c⟩
def sayOf (p : Provider) (c now : Int) : Line × Int := sayL (lineOf p.Links c) (encodeP (pkOf p c)).1 (now + 40)
def toldP (p : Provider) (c now : Int) : Provider :=
  { p with Links := { p.Links with Told := p.Links.Told.set c p.Set, Fresh := p.Links.Fresh.set c false, Done := p.Links.Done.set c [], Said := p.Links.Said.set c (sayOf p c now).1.Said, Due := p.Links.Due.set c (sayOf p c now).1.Due, Got := p.Links.Got.set c (sayOf p c now).1.Got, Closed := p.Links.Closed.set c (sayOf p c now).1.Closed } }
def quietP (p : Provider) (c : Int) : Prop := p.Links.On.get c = false ∨ (dOf p c = [] ∧ p.Links.Done.get c = [] ∧ p.Links.Fresh.get c = false)
instance (p : Provider) (c : Int) : Decidable (quietP p c) := by
  have : Decidable (dOf p c = []) := decidable_of_iff ((dOf p c).length = 0) List.length_eq_zero_iff
  have : Decidable (p.Links.Done.get c = []) := decidable_of_iff ((p.Links.Done.get c).length = 0) List.length_eq_zero_iff
  exact inferInstanceAs (Decidable (_ ∨ _))
def tellP (p : Provider) (c now : Int) : Provider :=
  if quietP p c then p else if (encodeP (pkOf p c)).2 ≠ 0 then p else if (sayOf p c now).2 ≠ 0 then p else toldP p c now

structure TellFit (p : Provider) (c : Int) : Prop where
  t : (p.Links.Told.get c).length ≤ 9223372036854775807
  s : p.Set.length ≤ 6
  d : (p.Links.Done.get c).length ≤ 6
  u : (p.Links.Due.get c).length ≤ 9223372036854775807

theorem quiet_iff {p : Provider} {c : Int} : quietP p c ↔ p.Links.On.get c = false ∨ ((dOf p c).length = 0 ∧ (p.Links.Done.get c).length = 0 ∧ p.Links.Fresh.get c = false) := by
  unfold quietP; rw [List.length_eq_zero_iff, List.length_eq_zero_iff]

theorem pl_clonePwP {l : List Power} (h : l.length ≤ 6) : sh_slices_Clone_api_Power_p l = some l := by
  rw [sh_slices_Clone_api_Power_p, T_slices_Clone_api_Power_p]
  refine Tr.run_split (fun h0 => ?_) (fun _ => ?_) (.inr trivial)
  · rw [Tr.run_leaf, List.length_eq_zero_iff.1 h0]
  · rw [Tr.run_guard (by simp only [sl_len_powers, List.length_nil]; omega), Tr.run_leaf]

theorem pl_tell {p : Provider} {c now : Int} (hf : TellFit p c) (hc : 0 ≤ c ∧ c < 2) (hn : 0 ≤ now ∧ now ≤ 1099511627776) : sh_provider_tell c now p = some (tellP p c now) := by
  obtain ⟨ft, fs, fd, fu⟩ := hf
  have hdl : (dOf p c).length ≤ 6 := diffOf_len _ _
  have hD : sh_stake_Diff (p.Links.Told.get c) p.Set = some (dOf p c) := pl_DiffG ft (by omega)
  have hE : sh_codec_Encode (⟨1, p.Height, 0, 0, dOf p c, p.Links.Done.get c⟩ : Packet) = some (encodeP (pkOf p c)) := pl_Encode (by show (dOf p c).length * 16 ≤ _; omega) (by show (p.Links.Done.get c).length * 8 ≤ _; omega)
  rw [sh_provider_tell, T_provider_tell, Tr.run_guard hc, Tr.run_guard (by rw [hD]; rfl), hD]
  simp only [Option.getD_some]
  unfold tellP
  by_cases hq : quietP p c
  · rw [if_pos hq, Tr.run_true (by
      rw [quiet_iff] at hq
      simp only [Bool.or_eq_true, Bool.and_eq_true, Bool.not_eq_true', beq_iff_eq]
      rcases hq with h | ⟨h1, h2, h3⟩
      · exact .inl h
      · exact .inr ⟨⟨by omega, h3⟩, by omega⟩), Tr.run_leaf]
  · rw [if_neg hq, Tr.run_false (by
      rw [Bool.eq_false_iff]
      intro h
      simp only [Bool.or_eq_true, Bool.and_eq_true, Bool.not_eq_true', beq_iff_eq] at h
      refine hq (quiet_iff.2 ?_)
      rcases h with h | ⟨⟨h1, h2⟩, h3⟩
      · exact .inl h
      · exact .inr ⟨by omega, by omega, h2⟩), Tr.run_guard (by rw [hE]; rfl), hE]
    simp only [Option.getD_some]
    by_cases he : (encodeP (pkOf p c)).2 ≠ 0
    · rw [if_pos he, Tr.run_true (by simpa using he), Tr.run_leaf]
    · rw [if_neg he, Tr.run_false (by simpa using he), i64_in (x := now + 40) (by omega) (by omega), Tr.run_bind (pl_Say _ _ _)]
      by_cases hs : (sayOf p c now).2 ≠ 0
      · rw [if_pos hs, Tr.run_true (by simpa [sayOf] using hs), Tr.run_leaf]
      · rw [if_neg hs, Tr.run_false (by simpa [sayOf] using hs), Tr.run_guard (by rw [pl_clonePwP fs]; rfl), Tr.run_leaf, pl_clonePwP fs]
        rfl

/-! The end. -/

def startP (p : Provider) (now : Int) : Provider := { p with Height := p.Height + 1, Time := now, Meter := tickM p.Meter (allP p.Set) now }
def queueP (p : Provider) (now : Int) : Provider × A2 Bool × List Asked := p.Queue.foldl turnQ (startP p now, ⟨false, false⟩, [])
def paidP (p : Provider) (now : Int) : Provider :=
  { (queueP p now).1 with Stake := (payS (queueP p now).1.Stake now).1, Set := setS (payS (queueP p now).1.Stake now).1, Queue := (queueP p now).2.2 }
def endP (p : Provider) (now : Int) : Provider × List Int × Int :=
  if GoodPr p = true ∧ p.Time ≤ now ∧ now ≤ 1099511627776 then (tellP (tellP (paidP p now) 0 now) 1 now, (payS (queueP p now).1.Stake now).2.1, 0) else (p, [], 2)

theorem allP_i64 (l : List Power) : i64 (allP l) := by
  have : ∀ (l : List Power) (t : Int), i64 t → i64 (l.foldl (fun t p => IntKind.i64.wrap (t + p.N)) t) := by
    intro l
    induction l with
    | nil => intro t ht; exact ht
    | cons q l ih => intro t _; exact ih _ (by show i64 (IntKind.i64.wrap (t + q.N)); rw [IntKind.wrap_i64]; unfold i64; omega)
  exact this l 0 (by unfold i64; omega)

theorem start_inv {p : Provider} {now : Int} (hg : GoodPr p = true) : DealI (startP p now) (startP p now) := by
  obtain ⟨g1, _, _, k0, k1, _⟩ := goodPr_nums hg
  unfold okLk at k0 k1
  simp only [Bool.and_eq_true] at k0 k1
  exact ⟨p.Stake, p.Links.Done, tickM p.Meter (allP p.Set) now, rfl, g1, k0.2, k1.2⟩

theorem fold_inv {p0 : Provider} : ∀ (l : List Asked) (i : Nat) (t : Provider × A2 Bool × List Asked), TurnI p0 i t → (∀ a, a ∈ l → (0 ≤ a.C ∧ a.C < 2) ∧ a ∈ p0.Queue) → TurnI p0 (i + l.length) (l.foldl turnQ t)
  | [], i, t, h, _ => h
  | a :: l, i, t, h, ha => by
    have := fold_inv l (i + 1) (turnQ t a) (turn_inv h (ha a (List.mem_cons_self ..)).1 (ha a (List.mem_cons_self ..)).2) (fun b hb => ha b (List.mem_cons_of_mem _ hb))
    rw [List.foldl_cons, List.length_cons, show i + (l.length + 1) = i + 1 + l.length by omega]
    exact this

theorem asks_ok {p : Provider} (hg : GoodPr p = true) : ∀ a, a ∈ p.Queue → askOk p a = true ∧ (0 ≤ a.C ∧ a.C < 2) := by
  intro a ha
  have h := List.all_eq_true.1 (goodPr_nums hg).2.2.2.2.2 a ha
  refine ⟨h, ?_⟩
  unfold askOk at h
  simp only [Bool.and_eq_true, decide_eq_true_eq] at h
  exact h.1.1.1

theorem queue_inv {p : Provider} {now : Int} (hg : GoodPr p = true) : TurnI (startP p now) p.Queue.length (queueP p now) := by
  have := fold_inv (p0 := startP p now) p.Queue 0 (startP p now, ⟨false, false⟩, []) ⟨start_inv hg, by simp, fun c hc => by rcases (show c = 0 ∨ c = 1 by omega) with rfl | rfl <;> rfl, fun b hb => by cases hb⟩ (fun a ha => ⟨(asks_ok hg a ha).2, ha⟩)
  rwa [Nat.zero_add] at this

theorem paid_fit {p : Provider} (hf : FitPr 140737488351232 p) {now : Int} (hg : GoodPr p = true) (c : Int) : TellFit (paidP p now) c := by
  have hq := queue_inv (now := now) hg
  obtain ⟨S, D, M, e, hS, d0, d1⟩ := hq.1
  have ht := hf.told c
  have hu := hf.due c
  refine ⟨?_, setOf_len _, ?_, ?_⟩
  · show ((queueP p now).1.Links.Told.get c).length ≤ _
    rw [e]; show (p.Links.Told.get c).length ≤ _; omega
  · show ((queueP p now).1.Links.Done.get c).length ≤ 6
    exact done_len hq.1.get
  · show ((queueP p now).1.Links.Due.get c).length ≤ _
    rw [e]; show (p.Links.Due.get c).length ≤ _; omega

theorem tell_fit {p : Provider} {now : Int} (h : TellFit p 1) : TellFit (tellP p 0 now) 1 := by
  unfold tellP
  split
  · exact h
  · split
    · exact h
    · split
      · exact h
      · exact ⟨h.t, h.s, h.d, h.u⟩

theorem end_test {p : Provider} {now : Int} : (((!GoodPr p) || (decide (now < p.Time))) || (decide (now > 1099511627776))) = !decide (GoodPr p = true ∧ p.Time ≤ now ∧ now ≤ 1099511627776) := by
  rw [Bool.eq_iff_iff]
  simp only [Bool.or_eq_true, Bool.not_eq_true', decide_eq_true_eq, decide_eq_false_iff_not]
  cases GoodPr p <;> simp <;> omega

theorem pl_provEnd {p : Provider} (hf : FitPr 140737488351232 p) {now : Int} : sh_provider_End p now = some (endP p now) := by
  have hset := hf.set
  rw [sh_provider_End, T_provider_End, Tr.run_bind (pl_provGood hf)]
  unfold endP
  by_cases hg : GoodPr p = true ∧ p.Time ≤ now ∧ now ≤ 1099511627776
  · obtain ⟨hg1, hg2⟩ := hg
    have hnum := (goodPr_nums hg1).2.1
    unfold numsPr at hnum
    rw [if_pos ⟨hg1, hg2⟩, Tr.run_false (by rw [end_test, decide_eq_true ⟨hg1, hg2⟩]; rfl), Tr.run_guard (by rw [pl_All (by omega)]; rfl), pl_All (by omega)]
    simp only [Option.getD_some]
    rw [Tr.run_guard (by rw [pl_TickM (allP_i64 _)]; rfl), pl_TickM (allP_i64 _), i64_in (x := p.Height + 1) (by omega) (by omega)]
    simp only [Option.getD_some]
    have hloop := end_loop (p0 := startP p now) (q := p) (now := now) (d := default) (l := p.Queue) (p := startP p now) (start_inv hg1) hf.queue (fun a ha => ⟨(asks_ok hg1 a ha).1, ha⟩)
    have hinv := queue_inv (now := now) hg1
    have hgs : GoodS (queueP p now).1.Stake := hinv.1.good
    have hpay := good_pay hgs now
    have hz : (payS (queueP p now).1.Stake now).2.2 = 0 := by rw [payS_eq hgs]
    rw [Tr.run_bind (show sh_provider_End_l1 now p.Queue ((p.Queue.length : Nat) : Int) 0 (⟨p.Height + 1, now, p.Stake, p.Set, p.Links, tickM p.Meter (allP p.Set) now, p.Queue⟩ : Provider) default ⟨false, false⟩ [] = some (now, (queueP p now).1, default, (queueP p now).2.2) from hloop)]
    simp only []
    rw [Tr.run_bind (show sh_stake_Pay (queueP p now).1.Stake now = _ from pl_Pay), Tr.run_false (by rw [hz]; rfl), Tr.run_bind (pl_Set hpay)]
    have h0 := pl_tell (now := now) (paid_fit hf (now := now) hg1 0) (by omega) (by omega)
    have h1 := pl_tell (now := now) (tell_fit (now := now) (paid_fit hf (now := now) hg1 1)) (by omega) (by omega)
    rw [Tr.run_bind (v := ((payS (queueP p now).1.Stake now).2.1, tellP (tellP (paidP p now) 0 now) 1 now, default)) (by
      show sh_provider_End_l2 now (payS (queueP p now).1.Stake now).2.1 0 (paidP p now) default = _
      rw [sh_provider_End_l2, iter_inl0 (s' := (now, (payS (queueP p now).1.Stake now).2.1, ((1 : Nat) : Int), tellP (paidP p now) 0 now, default)) (by
          simp only [T_provider_End_l2]
          rw [Tr.run_true (by simp), Tr.run_bind h0, Tr.run_leaf]; rfl),
        iter_inl0 (s' := (now, (payS (queueP p now).1.Stake now).2.1, ((2 : Nat) : Int), tellP (tellP (paidP p now) 0 now) 1 now, default)) (by
          simp only [T_provider_End_l2]
          rw [Tr.run_true (by simp)]
          rw [Tr.run_bind (show sh_provider_tell ((1 : Nat) : Int) now _ = _ from h1), Tr.run_leaf]; rfl),
        iter_inr0 (by
          simp only [T_provider_End_l2]
          rw [Tr.run_false (by simp), Tr.run_leaf])]), Tr.run_leaf]
  · rw [if_neg hg, Tr.run_true (by rw [end_test, decide_eq_false hg]; rfl), Tr.run_leaf]

end Go.Proofs.YtknbejjfejdppaaGreat.Ab

namespace Go.Proofs.YtknbejjfejdppaaGreat.Ab
open Go Go.RowKit
set_option linter.unusedVariables false
set_option linter.unusedSimpArgs false

/-! What the laws try first. -/

def stk5 : Stake := ⟨⟨⟨99500, 100000, 100000, 100000⟩, 500, 0, 0⟩, { zeroV with Tokens := ⟨500, 0, 0, 0, 0, 0⟩, Shares := ⟨500, 0, 0, 0, 0, 0⟩ }, ⟨⟨500, 0, 0, 0, 0, 0⟩, ⟨0, 0, 0, 0, 0, 0⟩, ⟨0, 0, 0, 0, 0, 0⟩, ⟨0, 0, 0, 0, 0, 0⟩⟩, [], 1⟩
theorem stk5_good : GoodS stk5 := by decide
theorem delegate_500 : delegateS newS 0 0 500 = (stk5, 0) := by
  have h : knownS newS 0 0 = 0 := by
    unfold knownS
    rw [if_neg (by simpa using newS_good), if_neg (by omega)]
  unfold delegateS
  rw [if_neg (by simpa using h), if_neg (by decide), if_neg (by omega), if_neg (by decide), if_neg (by decide), if_neg (by decide), if_neg (by decide)]
  rfl
theorem set_five : setS stk5 = [⟨0, 5⟩] := by rfl

def onePr : Provider := { newPr with Stake := stk5 }
def twoPr : Provider := ⟨1, 3, stk5, [⟨0, 5⟩], default, tickM (newM 0 0) (allP []) 3, []⟩
theorem links0 (c : Int) : (default : Links).Told.get c = [] ∧ (default : Links).Done.get c = [] ∧ (default : Links).Said.get c = [] ∧ (default : Links).Due.get c = [] := by
  unfold A2.get
  by_cases h : c = 0
  · rw [if_pos h, if_pos h, if_pos h, if_pos h]; exact ⟨rfl, rfl, rfl, rfl⟩
  · rw [if_neg h, if_neg h, if_neg h, if_neg h]; exact ⟨rfl, rfl, rfl, rfl⟩
theorem fit0 {H T : Int} {S : Stake} {st : List Power} {M : Meter} (hS : S.Waits = []) (hs : st.length ≤ 6) : FitPr 140737488351232 ⟨H, T, S, st, default, M, []⟩ := by
  refine ⟨by rw [hS]; simp, by show st.length * 16 ≤ _; omega, fun c => ?_, fun c => ?_, fun c => ?_, fun c => ?_, by simp, fun a ha => by cases ha⟩
  · rw [(links0 c).1]; simp
  · rw [(links0 c).2.1]; simp
  · rw [(links0 c).2.2.1]; simp
  · rw [(links0 c).2.2.2]; simp
theorem newPr_good : GoodPr newPr = true := by decide
theorem onePr_good : GoodPr onePr = true := by decide
theorem twoPr_good : GoodPr twoPr = true := by decide
theorem delegate_newPr : delegatePr newPr 0 0 500 = (onePr, 0) := by
  unfold delegatePr
  rw [if_pos newPr_good]
  show (if (delegateS newS 0 0 500).2 ≠ 0 then _ else (({ newPr with Stake := (delegateS newS 0 0 500).1 } : Provider), (0 : Int))) = _
  rw [delegate_500]; rfl
theorem tell_off {p : Provider} {c now : Int} (h : p.Links.On.get c = false) : tellP p c now = p := by unfold tellP; rw [if_pos (.inl h)]
theorem end_onePr : endP onePr 3 = (twoPr, [], 0) := by
  have hpay : payS stk5 3 = (stk5, [], 0) := by unfold payS; rw [if_neg (by simpa using stk5_good)]; rfl
  unfold endP
  rw [if_pos ⟨onePr_good, by decide, by decide⟩]
  have hp : paidP onePr 3 = twoPr := by
    unfold paidP
    show ({ startP onePr 3 with Stake := (payS stk5 3).1, Set := setS (payS stk5 3).1, Queue := [] } : Provider) = _
    rw [hpay, set_five]; rfl
  rw [hp, tell_off (p := twoPr) (c := 0) rfl, tell_off (p := twoPr) (c := 1) rfl]
  show (twoPr, (payS stk5 3).2.1, (0 : Int)) = _
  rw [hpay]

theorem pl_keepprovides : sh_keep_provides = some true := by
  rw [sh_keep_provides, T_keep_provides, Tr.run_bind pl_provNew, Tr.run_bind (pl_provDelegate (p := newPr) (fit0 rfl (by simp)) (by omega)), delegate_newPr, Tr.run_bind (pl_provEnd (p := onePr) (fit0 rfl (by show 0 ≤ 6; omega))), end_onePr]
  have hg : sh_provider_Good twoPr = some true := by rw [pl_provGood (p := twoPr) (fit0 rfl (by simp)), twoPr_good]
  rw [Tr.run_guard (fun _ => ⟨by rw [hg]; rfl, trivial⟩), Tr.run_leaf, hg]
  rfl

end Go.Proofs.YtknbejjfejdppaaGreat.Ab

namespace Go.Proofs.YtknbejjfejdppaaGreat.Ab
open Go Go.RowKit
set_option linter.unusedVariables false
set_option linter.unusedSimpArgs false

/-! Hearing. -/

theorem good_lens {p : Packet} (h : goodP p = 0) : p.Set.length ≤ 6 ∧ p.Done.length ≤ 6 := by
  obtain ⟨_, _, _, _, _, _, _, _, g9, g10, _⟩ := good_facts h
  have l1 := powsOk_len g9 (by omega)
  exact ⟨by omega, done_len g10⟩

end Go.Proofs.YtknbejjfejdppaaGreat.Ab

namespace Go.Proofs.YtknbejjfejdppaaGreat.Ab
open Go Go.RowKit
set_option linter.unusedVariables false
set_option linter.unusedSimpArgs false

/-! Remove. -/

end Go.Proofs.YtknbejjfejdppaaGreat.Ab

namespace Go.Proofs.YtknbejjfejdppaaGreat.Ab
open Go Go.RowKit
set_option linter.unusedVariables false
set_option linter.unusedSimpArgs false

theorem A2_all {α : Type} {P : α → Prop} {a : A2 α} (h0 : P (a.get 0)) (h1 : P (a.get 1)) (c : Int) : P (a.get c) := by
  by_cases h : c = 0
  · rw [h]; exact h0
  · have : a.get c = a.get 1 := by unfold A2.get; rw [if_neg h]; rfl
    rw [this]; exact h1

theorem pw_powsOk {m : Int} : ∀ {l : List Power} {p : Int}, (∀ q, q ∈ l → p < q.V ∧ q.V ≤ 5 ∧ m ≤ q.N ∧ q.N ≤ 1125899906842624) → l.Pairwise (fun a b => a.V < b.V) → powsOk m p l = true
  | [], p, _, _ => rfl
  | q :: l, p, h1, h2 => by
    have hq := h1 q (List.mem_cons_self ..)
    rw [List.pairwise_cons] at h2
    simp only [powsOk, Bool.and_eq_true, decide_eq_true_eq]
    exact ⟨⟨⟨⟨hq.1, hq.2.1⟩, hq.2.2.1⟩, hq.2.2.2⟩, pw_powsOk (fun x hx => ⟨h2.1 x hx, (h1 x (List.mem_cons_of_mem _ hx)).2⟩) h2.2⟩

theorem set_ok {s : Stake} (hg : GoodS s) : powsOk 1 (-1) (setS s) = true := by
  refine pw_powsOk (fun q hq => ?_) (setOf_sorted _)
  obtain ⟨hv, _, hn, h1⟩ := mem_setS hg hq
  have := (hg.at hv).1.1
  unfold inA at this
  omega

/-- A good provider but for the bound of its height. -/
def GoodX (p : Provider) : Prop := GoodS p.Stake ∧ (0 ≤ p.Height ∧ 0 ≤ p.Time ∧ p.Time ≤ 1099511627776) ∧ powsOk 1 (-1) p.Set = true ∧ okLk p 0 = true ∧ okLk p 1 = true ∧ p.Queue.all (askOk p) = true
theorem goodPr_iff {p : Provider} : GoodPr p = true ↔ GoodX p ∧ p.Height < 1099511627776 := by
  constructor
  · intro h
    obtain ⟨a, ⟨b1, b2, b3, b4⟩, c, d, e, f⟩ := goodPr_nums h
    exact ⟨⟨a, ⟨b1, b3, b4⟩, c, d, e, f⟩, b2⟩
  · rintro ⟨⟨a, ⟨b1, b3, b4⟩, c, d, e, f⟩, b2⟩
    unfold GoodPr
    simp only [Bool.and_eq_true, decide_eq_true_eq]
    exact ⟨⟨⟨⟨⟨a, b1, b2, b3, b4⟩, c⟩, d⟩, e⟩, f⟩

structure LkX (p : Provider) (c : Int) : Prop where
  on : ¬ (p.Links.On.get c = true ∧ p.Links.Gone.get c = true)
  b0 : 0 ≤ p.Links.Base.get c
  b1 : p.Links.Base.get c ≤ p.Height
  told : powsOk 1 (-1) (p.Links.Told.get c) = true
  line : GoodL (lineOf p.Links c)
  done : doneOk (-1) (p.Links.Done.get c) = true
theorem okLk_iff {p : Provider} {c : Int} : okLk p c = true ↔ LkX p c := by
  unfold okLk
  simp only [Bool.and_eq_true, decide_eq_true_eq]
  constructor
  · rintro ⟨⟨⟨⟨⟨h1, h2⟩, h3⟩, h4⟩, h5⟩, h6⟩
    exact ⟨fun ⟨x, y⟩ => (by rw [x, y] at h1; cases h1), h2, h3, h4, h5, h6⟩
  · rintro ⟨h1, h2, h3, h4, h5, h6⟩
    refine ⟨⟨⟨⟨⟨?_, h2⟩, h3⟩, h4⟩, h5⟩, h6⟩
    cases x : p.Links.On.get c
    · rfl
    · cases y : p.Links.Gone.get c
      · rfl
      · exact absurd ⟨x, y⟩ h1
theorem GoodX.lk {p : Provider} (h : GoodX p) {c : Int} (hc : 0 ≤ c ∧ c < 2) : LkX p c := by
  rcases (show c = 0 ∨ c = 1 by omega) with rfl | rfl
  · exact okLk_iff.1 h.2.2.2.1
  · exact okLk_iff.1 h.2.2.2.2.1
theorem ask_iff {p : Provider} {a : Asked} : askOk p a = true ↔ (0 ≤ a.C ∧ a.C < 2) ∧ p.Links.On.get a.C = true ∧ goodP a.P = 0 ∧ a.P.Kind ≠ 1 := by
  unfold askOk
  simp only [Bool.and_eq_true, decide_eq_true_eq, beq_iff_eq, Bool.not_eq_true', beq_eq_false_iff_ne]
  constructor
  · rintro ⟨⟨⟨⟨c0, c1⟩, c2⟩, c3⟩, c4⟩; exact ⟨⟨c0, c1⟩, c2, c3, c4⟩
  · rintro ⟨⟨c0, c1⟩, c2, c3, c4⟩; exact ⟨⟨⟨⟨c0, c1⟩, c2⟩, c3⟩, c4⟩
theorem GoodX.ask {p : Provider} (h : GoodX p) {a : Asked} (ha : a ∈ p.Queue) : (0 ≤ a.C ∧ a.C < 2) ∧ p.Links.On.get a.C = true ∧ goodP a.P = 0 ∧ a.P.Kind ≠ 1 := ask_iff.1 (List.all_eq_true.1 h.2.2.2.2.2 a ha)

theorem sayL_keeps {l : Line} {s : ByteArray} {u : Int} (h : GoodL l) (hu : 0 ≤ u) : GoodL (sayL l s u).1 := by
  unfold sayL
  rw [if_neg (by rintro (k | k); exact k h; omega)]
  split
  · exact h
  · split
    · exact h
    · rename_i h4
      obtain ⟨g1, g2, g3, g4, g5⟩ := h
      refine ⟨by simp [g1], by simp only [List.length_append, List.length_singleton]; omega, g3, by simp only [List.length_append, List.length_singleton]; omega, ?_⟩
      simp only [List.any_append, g5, Bool.false_or, List.any_cons, List.any_nil, Bool.or_false, decide_eq_false_iff_not]
      omega

/-- What the queue leaves of a provider. -/
theorem queue_up {p : Provider} (hg : GoodPr p = true) (now : Int) : ∃ S D M, (queueP p now).1 = upP (startP p now) S D M ∧ GoodS S ∧ (∀ c : Int, doneOk (-1) (D.get c) = true) ∧ (queueP p now).2.2.length ≤ p.Queue.length ∧ ∀ b, b ∈ (queueP p now).2.2 → b ∈ p.Queue := by
  obtain ⟨⟨S, D, M, e, hS, d0, d1⟩, hq2, hq3, hq4⟩ := queue_inv (now := now) hg
  exact ⟨S, D, M, e, hS, A2_all (P := fun l => doneOk (-1) l = true) d0 d1, hq2, hq4⟩

theorem good_paid {p : Provider} (hg : GoodPr p = true) {now : Int} (hn : p.Time ≤ now ∧ now ≤ 1099511627776) : GoodX (paidP p now) := by
  obtain ⟨S, D, M, e, hS, hd, hl, hm⟩ := queue_up hg now
  have hx := (goodPr_iff.1 hg).1
  have hp := good_pay hS now
  have hn0 := hx.2.1
  unfold paidP
  rw [e]
  refine ⟨hp, ⟨by show 0 ≤ p.Height + 1; omega, by show 0 ≤ now; omega, hn.2⟩, set_ok hp, okLk_iff.2 ?_, okLk_iff.2 ?_, List.all_eq_true.2 fun b hb => ?_⟩
  · obtain ⟨a1, a2, a3, a4, a5, a6⟩ := hx.lk (c := 0) (by omega)
    exact ⟨a1, a2, by show p.Links.Base.get 0 ≤ p.Height + 1; omega, a4, a5, hd 0⟩
  · obtain ⟨a1, a2, a3, a4, a5, a6⟩ := hx.lk (c := 1) (by omega)
    exact ⟨a1, a2, by show p.Links.Base.get 1 ≤ p.Height + 1; omega, a4, a5, hd 1⟩
  · exact ask_iff.2 (hx.ask (hm b hb))

theorem tell_rest (p : Provider) (c now : Int) : (tellP p c now).Height = p.Height ∧ (tellP p c now).Time = p.Time ∧ (tellP p c now).Stake = p.Stake ∧ (tellP p c now).Set = p.Set ∧ (tellP p c now).Meter = p.Meter ∧ (tellP p c now).Queue = p.Queue ∧
    (tellP p c now).Links.On = p.Links.On ∧ (tellP p c now).Links.Gone = p.Links.Gone ∧ (tellP p c now).Links.Base = p.Links.Base ∧ (tellP p c now).Links.SHeight = p.Links.SHeight ∧ (tellP p c now).Links.STime = p.Links.STime ∧ (tellP p c now).Links.SSaid = p.Links.SSaid ∧ (tellP p c now).Links.SGot = p.Links.SGot := by
  unfold tellP
  repeat' split
  all_goals exact ⟨rfl, rfl, rfl, rfl, rfl, rfl, rfl, rfl, rfl, rfl, rfl, rfl, rfl⟩

theorem tell_other {p : Provider} {c j now : Int} (hc : 0 ≤ c ∧ c < 2) (hj : 0 ≤ j ∧ j < 2) (h : j ≠ c) : (tellP p c now).Links.Told.get j = p.Links.Told.get j ∧ (tellP p c now).Links.Fresh.get j = p.Links.Fresh.get j ∧ (tellP p c now).Links.Done.get j = p.Links.Done.get j ∧ lineOf (tellP p c now).Links j = lineOf p.Links j := by
  unfold tellP
  repeat' split
  · exact ⟨rfl, rfl, rfl, rfl⟩
  · exact ⟨rfl, rfl, rfl, rfl⟩
  · exact ⟨rfl, rfl, rfl, rfl⟩
  · unfold toldP lineOf
    simp only [A2_get_set _ _ hc hj, if_neg h]
    exact ⟨trivial, trivial, trivial, trivial⟩

theorem dOf_ok {p : Provider} {c : Int} (hs : powsOk 1 (-1) p.Set = true) : powsOk 0 (-1) (dOf p c) = true := by
  have hb : ∀ v : Nat, 0 ≤ fP p.Set v ∧ fP p.Set v ≤ 1125899906842624 := by
    intro v
    unfold fP
    have hm := powsOk_mem (by omega) hs (by omega)
    revert hm
    generalize p.Set = l
    intro hm
    induction l with
    | nil => simp [findP]
    | cons q l ih =>
      simp only [findP]
      split
      · have := hm q (List.mem_cons_self ..); omega
      · exact ih (fun q hq => hm q (List.mem_cons_of_mem _ hq))
  unfold dOf
  generalize fP p.Set = g at hb
  generalize fP (p.Links.Told.get c) = f
  have hm : ∀ q, q ∈ diffOf f g → ∃ v : Nat, v < 6 ∧ q = ⟨v, g v⟩ := by
    intro q hq
    rw [diffOf_eq] at hq
    simp only [List.mem_append, List.not_mem_nil, or_false] at hq
    have key : ∀ v : Nat, v < 6 → q ∈ twoP (v : Int) (g v) (f v) → ∃ v : Nat, v < 6 ∧ q = ⟨v, g v⟩ := by
      intro v hv h
      unfold twoP at h
      split at h
      · exact ⟨v, hv, List.mem_singleton.1 h⟩
      · cases h
    rcases hq with h | h | h | h | h | h
    · exact key 0 (by omega) h
    · exact key 1 (by omega) h
    · exact key 2 (by omega) h
    · exact key 3 (by omega) h
    · exact key 4 (by omega) h
    · exact key 5 (by omega) h
  refine pw_powsOk (fun q hq => ?_) ?_
  · obtain ⟨v, hv, rfl⟩ := hm q hq
    have := hb v
    refine ⟨by show (-1 : Int) < (v : Int); omega, by show (v : Int) ≤ 5; omega, this.1, this.2⟩
  · rw [diffOf_eq]
    have one : ∀ (v : Int) (x y : Int), (twoP v x y).Pairwise (fun a b => a.V < b.V) := by
      intro v x y; unfold twoP; split
      · exact List.pairwise_singleton ..
      · exact .nil
    have mem : ∀ {v x y : Int} {q : Power}, q ∈ twoP v x y → q.V = v := by
      intro v x y q h; unfold twoP at h; split at h
      · rw [List.mem_singleton.1 h]
      · cases h
    refine List.pairwise_append.2 ⟨one _ _ _, List.pairwise_append.2 ⟨one _ _ _, List.pairwise_append.2 ⟨one _ _ _, List.pairwise_append.2 ⟨one _ _ _, List.pairwise_append.2 ⟨one _ _ _, List.pairwise_append.2 ⟨one _ _ _, .nil, ?_⟩, ?_⟩, ?_⟩, ?_⟩, ?_⟩, ?_⟩
    all_goals
      intro a ha b hb
      have k := mem ha
      first
      | (exfalso; cases hb; done)
      | (simp only [List.mem_append, List.not_mem_nil, or_false] at hb
         first
         | (rcases hb with h | h | h | h | h <;> have := mem h <;> omega)
         | (rcases hb with h | h | h | h <;> have := mem h <;> omega)
         | (rcases hb with h | h | h <;> have := mem h <;> omega)
         | (rcases hb with h | h <;> have := mem h <;> omega)
         | (have := mem hb; omega))

theorem pk_good {p : Provider} {c : Int} (hs : powsOk 1 (-1) p.Set = true) (hd : doneOk (-1) (p.Links.Done.get c) = true) (hH : 1 ≤ p.Height ∧ p.Height ≤ 1099511627776) : goodP (pkOf p c) = 0 := by
  unfold goodP pkOf
  simp only []
  rw [if_neg (by omega), if_neg (by omega), if_neg (by omega), dOf_ok hs, hd]
  rfl

/-- What is told to a consumer. -/
theorem tell_yes {p : Provider} {c now : Int} (h : GoodX p) (hc : 0 ≤ c ∧ c < 2) (hH : 1 ≤ p.Height ∧ p.Height ≤ 1099511627776) (hn : 0 ≤ now) :
    (tellP p c now = p ∧ (quietP p c ∨ p.Links.Closed.get c = true ∨ 400 ≤ (p.Links.Said.get c).length)) ∨
    (¬ quietP p c ∧ p.Links.Closed.get c = false ∧ (p.Links.Said.get c).length < 400 ∧ (tellP p c now).Links = { p.Links with Told := p.Links.Told.set c p.Set, Fresh := p.Links.Fresh.set c false, Done := p.Links.Done.set c [], Said := p.Links.Said.set c (p.Links.Said.get c ++ [txt (encP (pkOf p c))]), Due := p.Links.Due.set c (p.Links.Due.get c ++ [now + 40]) }) := by
  have lk := h.lk hc
  have hg := pk_good (c := c) h.2.2.1 lk.done hH
  unfold tellP
  by_cases hq : quietP p c
  · rw [if_pos hq]; exact .inl ⟨rfl, .inl hq⟩
  · rw [if_neg hq, encodeP_good hg, if_neg (by simp)]
    have hu : ¬ (¬ GoodL (lineOf p.Links c) ∨ now + 40 < 0) := by rintro (k | k); exact k lk.line; omega
    cases hcl : p.Links.Closed.get c with
    | true =>
      have : sayOf p c now = (lineOf p.Links c, 11) := by unfold sayOf sayL; rw [if_neg hu, if_pos hcl]
      rw [this, if_pos (by simp)]; exact .inl ⟨rfl, .inr (.inl rfl)⟩
    | false =>
      by_cases h4 : 400 ≤ (p.Links.Said.get c).length
      · have : sayOf p c now = (lineOf p.Links c, 6) := by unfold sayOf sayL; rw [if_neg hu, if_neg (by simp [hcl]), if_pos h4]
        rw [this, if_pos (by simp)]; exact .inl ⟨rfl, .inr (.inr h4)⟩
      · have e : sayOf p c now = (⟨p.Links.Said.get c ++ [txt (encP (pkOf p c))], p.Links.Due.get c ++ [now + 40], p.Links.Got.get c, p.Links.Closed.get c⟩, 0) := by
          unfold sayOf sayL; rw [if_neg hu, if_neg (by simp [hcl]), if_neg h4, encodeP_good hg]
        rw [if_neg (by rw [e]; simp)]
        refine .inr ⟨hq, rfl, by omega, ?_⟩
        unfold toldP
        rw [e]
        simp only [A2_set_same _ hc]

theorem good_tell {p : Provider} {c now : Int} (h : GoodX p) (hc : 0 ≤ c ∧ c < 2) (hn : 0 ≤ now) : GoodX (tellP p c now) := by
  unfold tellP
  repeat' split
  · exact h
  · exact h
  · exact h
  · have hlk : ∀ j : Int, 0 ≤ j ∧ j < 2 → LkX (toldP p c now) j := by
      intro j hj
      obtain ⟨a1, a2, a3, a4, a5, a6⟩ := h.lk hj
      by_cases e : j = c
      · subst e
        refine ⟨a1, a2, a3, ?_, ?_, ?_⟩
        · show powsOk 1 (-1) ((p.Links.Told.set j p.Set).get j) = true
          rw [A2_get_set _ _ hj hj, if_pos rfl]; exact h.2.2.1
        · show GoodL ⟨(p.Links.Said.set j (sayOf p j now).1.Said).get j, (p.Links.Due.set j (sayOf p j now).1.Due).get j, (p.Links.Got.set j (sayOf p j now).1.Got).get j, (p.Links.Closed.set j (sayOf p j now).1.Closed).get j⟩
          simp only [A2_get_set _ _ hj hj, if_pos]
          refine sayL_keeps a5 ?_
          have : 0 ≤ now := hn
          omega
        · show doneOk (-1) ((p.Links.Done.set j []).get j) = true
          rw [A2_get_set _ _ hj hj, if_pos rfl]; rfl
      · refine ⟨a1, a2, a3, ?_, ?_, ?_⟩
        · show powsOk 1 (-1) ((p.Links.Told.set c p.Set).get j) = true
          rw [A2_get_set _ _ hc hj, if_neg e]; exact a4
        · show GoodL ⟨(p.Links.Said.set c (sayOf p c now).1.Said).get j, (p.Links.Due.set c (sayOf p c now).1.Due).get j, (p.Links.Got.set c (sayOf p c now).1.Got).get j, (p.Links.Closed.set c (sayOf p c now).1.Closed).get j⟩
          simp only [A2_get_set _ _ hc hj, if_neg e]
          exact a5
        · show doneOk (-1) ((p.Links.Done.set c []).get j) = true
          rw [A2_get_set _ _ hc hj, if_neg e]; exact a6
    exact ⟨h.1, h.2.1, h.2.2.1, okLk_iff.2 (hlk 0 (by omega)), okLk_iff.2 (hlk 1 (by omega)), h.2.2.2.2.2⟩

end Go.Proofs.YtknbejjfejdppaaGreat.Ab

namespace Go.Proofs.YtknbejjfejdppaaGreat.Ab
open Go Go.RowKit
set_option linter.unusedVariables false
set_option linter.unusedSimpArgs false

/-! Once. -/

theorem end_yes {p : Provider} {now : Int} (h : GoodPr p = true ∧ p.Time ≤ now ∧ now ≤ 1099511627776) : (endP p now).2.2 = 0 := by unfold endP; rw [if_pos h]
theorem end_no {p : Provider} {now : Int} (h : ¬ (GoodPr p = true ∧ p.Time ≤ now ∧ now ≤ 1099511627776)) : endP p now = (p, [], 2) := by unfold endP; rw [if_neg h]
theorem end_rest {p : Provider} {now : Int} (h : GoodPr p = true ∧ p.Time ≤ now ∧ now ≤ 1099511627776) :
    (endP p now).1.Height = p.Height + 1 ∧ (endP p now).1.Time = now ∧ (endP p now).1.Stake = (payS (queueP p now).1.Stake now).1 ∧ (endP p now).1.Set = setS (payS (queueP p now).1.Stake now).1 ∧ (endP p now).1.Queue = (queueP p now).2.2 ∧
    (endP p now).1.Links.On = p.Links.On ∧ (endP p now).1.Links.Gone = p.Links.Gone ∧ (endP p now).1.Links.Base = p.Links.Base := by
  unfold endP
  rw [if_pos h]
  obtain ⟨S, D, M, e, -⟩ := queue_up h.1 now
  obtain ⟨a1, a2, a3, a4, a5, a6, a7, a8, a9, -⟩ := tell_rest (tellP (paidP p now) 0 now) 1 now
  obtain ⟨b1, b2, b3, b4, b5, b6, b7, b8, b9, -⟩ := tell_rest (paidP p now) 0 now
  simp only [a1, a2, a3, a4, a6, a7, a8, a9, b1, b2, b3, b4, b6, b7, b8, b9]
  refine ⟨?_, ?_, rfl, rfl, rfl, ?_, ?_, ?_⟩
  all_goals
    unfold paidP
    rw [e]
    rfl
end Go.Proofs.YtknbejjfejdppaaGreat.Ab

namespace Go.Proofs.YtknbejjfejdppaaGreat.Ab
open Go Go.RowKit
set_option linter.unusedVariables false
set_option linter.unusedSimpArgs false

/-- What is told on a line: nothing, or what changes. -/
def ToldI (on fresh : Bool) (told : List Power) (D : List Int) (l : Line) (H now : Int) (set told' : List Power) (D' : List Int) (fresh' : Bool) (l' : Line) : Prop :=
  (told' = told ∧ D' = D ∧ fresh' = fresh ∧ l' = l ∧ (on = false ∨ (diffOf (fP told) (fP set) = [] ∧ D = [] ∧ fresh = false) ∨ l.Closed = true ∨ 400 ≤ l.Said.length)) ∨
  (told' = set ∧ D' = [] ∧ fresh' = false ∧ on = true ∧ l.Closed = false ∧ l.Said.length < 400 ∧ ¬ (diffOf (fP told) (fP set) = [] ∧ D = [] ∧ fresh = false) ∧ goodP ⟨1, H, 0, 0, diffOf (fP told) (fP set), D⟩ = 0 ∧
    l' = ⟨l.Said ++ [txt (encP ⟨1, H, 0, 0, diffOf (fP told) (fP set), D⟩)], l.Due ++ [now + 40], l.Got, l.Closed⟩)

theorem tell_link {p : Provider} {c now : Int} (h : GoodX p) (hc : 0 ≤ c ∧ c < 2) (hH : 1 ≤ p.Height ∧ p.Height ≤ 1099511627776) (hn : 0 ≤ now) :
    ToldI (p.Links.On.get c) (p.Links.Fresh.get c) (p.Links.Told.get c) (p.Links.Done.get c) (lineOf p.Links c) p.Height now p.Set ((tellP p c now).Links.Told.get c) ((tellP p c now).Links.Done.get c) ((tellP p c now).Links.Fresh.get c) (lineOf (tellP p c now).Links c) := by
  rcases tell_yes h hc hH hn with ⟨e, h1⟩ | ⟨h1, h2, h3, e⟩
  · rw [e]
    refine .inl ⟨rfl, rfl, rfl, rfl, ?_⟩
    rcases h1 with (h1 | h1) | h1 | h1
    · exact .inl h1
    · exact .inr (.inl h1)
    · exact .inr (.inr (.inl h1))
    · exact .inr (.inr (.inr h1))
  · rw [e]
    have on : p.Links.On.get c = true := by
      cases o : p.Links.On.get c with
      | true => rfl
      | false => exact absurd (.inl o) h1
    refine .inr ⟨?_, ?_, ?_, on, h2, h3, fun k => h1 (.inr k), pk_good h.2.2.1 (h.lk hc).done hH, ?_⟩
    · simp only [A2_get_set _ _ hc hc, if_pos]
    · simp only [A2_get_set _ _ hc hc, if_pos]
    · simp only [A2_get_set _ _ hc hc, if_pos]
    · unfold lineOf
      simp only [A2_get_set _ _ hc hc, if_pos]
      rfl

theorem paid_rest {p : Provider} (hg : GoodPr p = true) (now : Int) : (paidP p now).Height = p.Height + 1 ∧ (paidP p now).Links.On = p.Links.On ∧ (paidP p now).Links.Fresh = p.Links.Fresh ∧ (paidP p now).Links.Told = p.Links.Told ∧ (∀ c, lineOf (paidP p now).Links c = lineOf p.Links c) := by
  obtain ⟨S, D, M, e, -⟩ := queue_up hg now
  unfold paidP
  rw [e]
  exact ⟨rfl, rfl, rfl, rfl, fun _ => rfl⟩

theorem end_link {p : Provider} {now : Int} (h : GoodPr p = true ∧ p.Time ≤ now ∧ now ≤ 1099511627776) {c : Int} (hc : 0 ≤ c ∧ c < 2) :
    ∃ D, D = (paidP p now).Links.Done.get c ∧ ToldI (p.Links.On.get c) (p.Links.Fresh.get c) (p.Links.Told.get c) D (lineOf p.Links c) (endP p now).1.Height now (endP p now).1.Set ((endP p now).1.Links.Told.get c) ((endP p now).1.Links.Done.get c) ((endP p now).1.Links.Fresh.get c) (lineOf (endP p now).1.Links c) := by
  obtain ⟨hx, hH⟩ := goodPr_iff.1 h.1
  have hn : 0 ≤ now := by have := hx.2.1.2.1; omega
  have h0 := hx.2.1.1
  have g0 := good_paid h.1 h.2
  have g1 := good_tell (c := 0) g0 (by omega) hn
  obtain ⟨p1, p2, p3, p4, p5⟩ := paid_rest h.1 now
  obtain ⟨a1, a2, a3, a4, a5, a6, a7, a8, a9, -⟩ := tell_rest (tellP (paidP p now) 0 now) 1 now
  obtain ⟨b1, b2, b3, b4, b5, b6, b7, b8, b9, -⟩ := tell_rest (paidP p now) 0 now
  refine ⟨_, rfl, ?_⟩
  unfold endP
  rw [if_pos h]
  simp only []
  rw [a1, a4, b1, b4, ← p2, ← p3, ← p4, ← p5 c]
  rcases (show c = 0 ∨ c = 1 by omega) with rfl | rfl
  · obtain ⟨t1, t2, t3, t4⟩ := tell_other (p := tellP (paidP p now) 0 now) (c := 1) (j := 0) (now := now) (by omega) (by omega) (by omega)
    rw [t1, t2, t3, t4]
    exact tell_link g0 hc (by omega) hn
  · obtain ⟨t1, t2, t3, t4⟩ := tell_other (p := paidP p now) (c := 0) (j := 1) (now := now) (by omega) (by omega) (by omega)
    have := tell_link (c := 1) (now := now) g1 hc (by rw [b1]; omega) hn
    rw [b7, t1, t2, t3, t4, b1, b4] at this
    exact this

theorem setOf_fP_set (s : Stake) : setOf (fP (setS s)) = setS s := by
  have nn : ∀ v, 0 ≤ topF (cutF (nvF s)) v ∨ True := fun _ => .inr trivial
  show setOf (fP (setOf (topF (nvF s)))) = setOf (topF (nvF s))
  have key : ∀ f : Nat → Int, setOf (fP (setOf f)) = setOf f := by
    intro f
    have e : setOf f = setOf (fun v => if 0 < f v then f v else 0) := by
      rw [setOf_eq, setOf_eq]
      have : ∀ (w : Int) (n : Int), oneP w n = oneP w (if 0 < n then n else 0) := by
        intro w n
        unfold oneP
        by_cases h : 0 < n
        · rw [if_pos h, if_pos h, if_pos h]
        · rw [if_neg h, if_neg h]; rfl
      rw [this _ (f 0), this _ (f 1), this _ (f 2), this _ (f 3), this _ (f 4), this _ (f 5)]
    rw [e]
    exact setOf_congr fun v hv => findP_setOf (fun v => by show 0 ≤ if 0 < f v then f v else 0; split <;> omega) hv
  exact key _

theorem apply_to {told set : List Power} (hs : setOf (fP set) = set) : applyP told (diffOf (fP told) (fP set)) = set := by
  unfold applyP
  have : ∀ v : Nat, v < 6 → lastP (diffOf (fP told) (fP set)) v (findP told v) = fP set v := fun v hv => lastP_diff (f := fP told) (g := fP set) hv
  rw [setOf_congr this, hs]

theorem last_snoc {l : List ByteArray} {x d : ByteArray} (h : l.length ≤ 1000) : (l ++ [x]).getD (IntKind.i64.wrap ((((l ++ [x]).length : Nat) : Int) - 1)).toNat d = x := by
  have : (IntKind.i64.wrap ((((l ++ [x]).length : Nat) : Int) - 1)).toNat = l.length := by
    rw [List.length_append, List.length_singleton, i64_in (by omega) (by omega)]; omega
  rw [this, List.getD_eq_getElem?_getD, List.getElem?_append_right (by omega), Nat.sub_self]; rfl

theorem keeps_turn {p : Provider} {now : Int} (h : GoodPr p = true ∧ p.Time ≤ now ∧ now ≤ 1099511627776) {c : Nat} (hc : c < 2) :
    (T_keep_ProviderKeeps_l1 (endP p now).1.Links c p (endP p now).1).run = some (.inl ((endP p now).1.Links, ((c + 1 : Nat) : Int), p, (endP p now).1)) := by
  obtain ⟨hx, hH⟩ := goodPr_iff.1 h.1
  obtain ⟨r1, r2, r3, r4, r5, r6, r7, r8⟩ := end_rest h
  obtain ⟨D, -, hD⟩ := end_link (c := (c : Int)) h (by omega)
  have hgq := (queue_inv (now := now) h.1).1.good
  have hsl : (endP p now).1.Set.length ≤ 6 := by rw [r4]; exact setOf_len _
  have hset : setOf (fP (endP p now).1.Set) = (endP p now).1.Set := by rw [r4]; exact setOf_fP_set _
  have hlk := hx.lk (c := (c : Int)) (by omega)
  have h4 : (p.Links.Said.get (c : Int)).length ≤ 400 := hlk.line.2.1
  have htl := powsOk_len hlk.told (by omega)
  generalize (endP p now).1 = a at *
  simp only [T_keep_ProviderKeeps_l1]
  rw [Tr.run_true (by simp; omega), Tr.run_guard ⟨by omega, by omega⟩, Tr.run_guard ⟨by omega, by omega⟩, r6, r7, r8]
  rcases hD with ⟨e1, e2, e3, e4, -⟩ | ⟨e1, e2, e3, e4, e5, e6, e7, e8, e9⟩
  · have es : a.Links.Said.get (c : Int) = p.Links.Said.get (c : Int) := congrArg Line.Said e4
    rw [es, Tr.run_false (by
      rw [i64_in (by omega) (by omega)]
      simp), Tr.run_true (by simp), Tr.run_leaf, i64_nat (by omega)]
  · have es : a.Links.Said.get (c : Int) = p.Links.Said.get (c : Int) ++ [txt (encP ⟨1, a.Height, 0, 0, diffOf (fP (p.Links.Told.get (c : Int))) (fP a.Set), D⟩)] := congrArg Line.Said e9
    obtain ⟨k, hk⟩ : ∃ k : Packet, k = ⟨1, a.Height, 0, 0, diffOf (fP (p.Links.Told.get (c : Int))) (fP a.Set), D⟩ := ⟨_, rfl⟩
    have hlen : (a.Links.Said.get (c : Int)).length = (p.Links.Said.get (c : Int)).length + 1 := by rw [es]; simp
    rw [← hk] at e8 es
    rw [Tr.run_false (by
      rw [i64_in (by omega) (by omega)]
      simp only [Bool.or_eq_false_iff, decide_eq_false_iff_not, beq_self_eq_true, Bool.not_true, bne_self_eq_false, true_and, and_true]
      omega), Tr.run_false (by rw [beq_eq_false_iff_ne]; omega), Tr.run_guard ⟨by rw [i64_in (by omega) (by omega)]; omega, by
      show _ < (((a.Links.Said.get (c : Int)).length : Nat) : Int)
      rw [i64_in (by omega) (by omega)]; omega⟩]
    have hlast : (a.Links.Said.get (c : Int)).getD (IntKind.i64.wrap ((((a.Links.Said.get (c : Int)).length : Nat) : Int) - 1)).toNat .empty = txt (encP k) := by rw [es]; exact last_snoc (by omega)
    have hdec : sh_codec_Decode (txt (encP k)) = some (k, 0) := by
      have := pl_Decode (s := encP k) (by have := good_lens e8; rw [encP_length]; omega)
      rw [dec_enc e8] at this
      exact this
    have hkl := good_lens e8
    have ha : sh_stake_Apply (p.Links.Told.get (c : Int)) k.Set = some a.Set := by
      rw [pl_Apply (by omega) (by omega), hk]
      exact congrArg some (apply_to hset)
    rw [hlast, Tr.run_bind hdec, ha, e1, e2]
    simp only [Option.isSome_some, Option.getD_some, pl_samePw (l := a.Set) (by omega)]
    rw [Tr.run_guard (fun _ => ⟨trivial, trivial⟩), Tr.run_guard (fun _ => ⟨trivial, trivial⟩), Tr.run_guard (fun _ => ⟨trivial, trivial⟩), e3, hk, Tr.run_false (by simp), Tr.run_leaf, i64_nat (by omega)]

theorem pl_ProviderKeeps {p : Provider} (hf : FitPr 140737488351232 p) {now : Int} : sh_keep_ProviderKeeps p now = some true := by
  rw [sh_keep_ProviderKeeps, T_keep_ProviderKeeps, Tr.run_bind (pl_provEnd hf), pl_keepprovides, pl_provGood hf]
  simp only [Option.isSome_some, Option.getD_some]
  rw [Tr.run_guard (fun _ => ⟨trivial, trivial⟩)]
  by_cases h : GoodPr p = true ∧ p.Time ≤ now ∧ now ≤ 1099511627776
  · obtain ⟨hx, hH⟩ := goodPr_iff.1 h.1
    obtain ⟨r1, r2, r3, r4, r5, r6, r7, r8⟩ := end_rest h
    have hgq := (queue_inv (now := now) h.1).1.good
    obtain ⟨S, D, M, e, hS, hd, hl, hm⟩ := queue_up h.1 now
    have gp := good_pay hgq now
    have hsum : ∀ s : Stake, GoodS s → sh_bank_Sum s.Bank = some 400000 := fun s hs => by rw [pl_bankSum, hs.1.2.2.2.2.2.2.2]; rfl
    have hset : sh_stake_Set (endP p now).1.Stake = some (endP p now).1.Set := by rw [r3, pl_Set gp, r4]
    have hsl : (endP p now).1.Set.length ≤ 6 := by rw [r4]; exact setOf_len _
    have loop : sh_keep_ProviderKeeps_l1 (endP p now).1.Links 0 p (endP p now).1 = some (.inr ()) := by
      rw [sh_keep_ProviderKeeps_l1, iter_inl0 (s' := ((endP p now).1.Links, ((1 : Nat) : Int), p, (endP p now).1)) (keeps_turn (c := 0) h (by omega)), iter_inl0 (s' := ((endP p now).1.Links, ((2 : Nat) : Int), p, (endP p now).1)) (keeps_turn (c := 1) h (by omega)), iter_inr0 (by
        show (T_keep_ProviderKeeps_l1 _ 2 _ _).run = _
        simp only [T_keep_ProviderKeeps_l1]
        rw [Tr.run_false (by simp), Tr.run_leaf])]
    rw [Tr.run_false (by rw [end_yes h]; rfl), Tr.run_guard trivial, hset, hsum _ hx.1, show sh_bank_Sum (endP p now).1.Stake.Bank = some 400000 by rw [r3]; exact hsum _ gp]
    simp only [Option.isSome_some, Option.getD_some, pl_samePw (l := (endP p now).1.Set) (by omega)]
    rw [Tr.run_guard (fun _ => ⟨trivial, trivial⟩), Tr.run_guard (fun _ => ⟨trivial, trivial⟩), Tr.run_guard (fun _ => ⟨trivial, trivial⟩), Tr.run_guard (fun _ => ⟨trivial, trivial⟩), Tr.run_false (by
      rw [h.1, r1, r2, r5, i64_in (by have := hx.2.1.1; omega) (by have := hx.2.1.1; omega)]
      simp only [Bool.or_eq_false_iff, decide_eq_false_iff_not, Bool.not_true, bne_self_eq_false, bne_eq_false_iff_eq, true_and, and_true]
      omega), Tr.run_inr loop, Tr.run_leaf]
  · rw [end_no h, Tr.run_true (by rfl), Tr.run_guard (fun _ => ⟨trivial, trivial⟩), Tr.run_leaf]; rfl

end Go.Proofs.YtknbejjfejdppaaGreat.Ab
