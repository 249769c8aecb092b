/-
  Consumers, with no program in sight: Good, Begin, Hear, twice told, are the same.
-/
import Derived.Test.YthhdljniheaeoaaFLine
import Derived.Test.YthhdljniheaeoaaFCodec
import Derived.Test.YthhdljniheaeoaaPlCLaws
import Derived.Test.YthhdljniheaeoaaFStake
import Derived.Test.YthhdljniheaeoaaFCons
namespace Go.Proofs.Ythhdljniheaeoaa.Ab
open Go Go.RowKit
set_option linter.unusedVariables false
set_option linter.unusedSimpArgs false

def ripeOk (r : Ripe) : Bool := decide (1 ≤ r.Id) && decide (r.Id ≤ 1099511627776) && decide (0 ≤ r.Due)
def pendOk (p : Packet) : Bool := (p.Kind == 1) && (goodP p == 0)
def numsC (c : Consumer) : Prop := (c.On && c.Gone) = false ∧ 0 ≤ c.Height ∧ c.Height < 1099511627776 ∧ 0 ≤ c.Time ∧ c.Time ≤ 1099511627776 ∧ 0 ≤ c.Id ∧ c.Id ≤ 1099511627776
instance (c : Consumer) : Decidable (numsC c) := inferInstanceAs (Decidable (_ ∧ _))
def GoodC (c : Consumer) : Bool := decide (numsC c) && decide (GoodL c.Out) && powsOk 1 (-1) c.Set && c.Ripes.all ripeOk && c.Pending.all pendOk

/-- All that is in it is small enough to be copied. -/
structure FitC (R : Nat) (c : Consumer) : Prop where
  set : c.Set.length * 16 ≤ R
  pend : c.Pending.length * 80 ≤ R
  ripes : c.Ripes.length * 16 ≤ R
  said : c.Out.Said.length * 16 ≤ R
  due : c.Out.Due.length * 8 ≤ R
  ps : ∀ p, p ∈ c.Pending → p.Set.length * 16 ≤ R ∧ p.Done.length * 8 ≤ R

theorem FitC.mono {R S : Nat} {c : Consumer} (h : FitC R c) (hr : R ≤ S) : FitC S c :=
  ⟨Nat.le_trans h.set hr, Nat.le_trans h.pend hr, Nat.le_trans h.ripes hr, Nat.le_trans h.said hr, Nat.le_trans h.due hr, fun p hp => ⟨Nat.le_trans (h.ps p hp).1 hr, Nat.le_trans (h.ps p hp).2 hr⟩⟩

theorem pl_clonePw {l : List Power} (h : l.length * 16 ≤ 140737488355328) : sh_slices_Clone_api_Power l = some l := by
  rw [sh_slices_Clone_api_Power, T_slices_Clone_api_Power]
  refine Tr.run_split (fun h0 => ?_) (fun _ => ?_) (.inr trivial)
  · rw [Tr.run_leaf, List.length_eq_zero_iff.1 h0]
  · rw [Tr.run_guard (by simp only [sl_len_powers, List.length_nil]; omega), Tr.run_leaf]
theorem pl_clonePk {l : List Packet} (h : l.length * 80 ≤ 140737488355328) : sh_slices_Clone_api_Packet l = some l := by
  rw [sh_slices_Clone_api_Packet, T_slices_Clone_api_Packet]
  refine Tr.run_split (fun h0 => ?_) (fun _ => ?_) (.inr trivial)
  · rw [Tr.run_leaf, List.length_eq_zero_iff.1 h0]
  · rw [Tr.run_guard (by simp only [sl_len_packets, List.length_nil]; omega), Tr.run_leaf]
theorem pl_cloneRp {l : List Ripe} (h : l.length * 16 ≤ 140737488355328) : sh_slices_Clone_api_Ripe l = some l := by
  rw [sh_slices_Clone_api_Ripe, T_slices_Clone_api_Ripe]
  refine Tr.run_split (fun h0 => ?_) (fun _ => ?_) (.inr trivial)
  · rw [Tr.run_leaf, List.length_eq_zero_iff.1 h0]
  · rw [Tr.run_guard (by simp only [sl_len_ripes, List.length_nil]; omega), Tr.run_leaf]

theorem pend_all {l : List Packet} (hl : l.length ≤ 9223372036854775807) (hp : ∀ p, p ∈ l → p.Set.length * 16 ≤ 140737488351232 ∧ p.Done.length * 8 ≤ 140737488351232) :
    sh_slices_ContainsFunc_api_Packet l = some (!l.all pendOk) := by
  obtain ⟨r, h1, h2⟩ := iter_upto (F := fun s : (List Packet) × Int × Int => (T_slices_IndexFunc_api_Packet_l1 s.1 s.2.1 s.2.2).run) l.length
    (fun i (_ : Unit) => (l, (l.length : Int), (i : Int))) (fun i _ => True) (fun i _ r => match r with | .inl k => 0 ≤ k ∧ (l.drop i).all pendOk = false | .inr _ => (l.drop i).all pendOk = true) (by
      intro t _
      refine ⟨.inr (), ?_, ?_⟩
      · simp only [T_slices_IndexFunc_api_Packet_l1]; rw [Tr.run_false (by simp), Tr.run_leaf]
      · rw [List.drop_length]; rfl) (by
      intro i t hi _
      have hs := drop_step (l := l) (k := i) hi default
      have hm := getD_mem (l := l) (k := i) hi default
      obtain ⟨p1, p2⟩ := hp _ hm
      simp only [T_slices_IndexFunc_api_Packet_l1, Int.toNat_natCast]
      rw [Tr.run_true (by simpa using hi), Tr.run_guard ⟨by omega, by rw [sl_len_packets]; omega⟩, Tr.run_bind (v := !pendOk (l.getD i default)) (by
        rw [sh_consumer_Good_1, T_consumer_Good_1, Tr.run_bind (pl_goodP p1 p2), Tr.run_leaf]
        unfold pendOk
        congr 1
        rw [Bool.not_and, Bool.or_comm]; rfl), hs]
      simp only [List.all_cons]
      obtain ⟨b, hb⟩ : ∃ b, b = pendOk (l.getD i default) := ⟨_, rfl⟩
      rw [← hb]
      cases b with
      | true =>
        refine .inl ⟨(), ?_, trivial, ?_⟩
        · rw [Tr.run_false (show (!true) = false from rfl), Tr.run_leaf, i64_nat (by omega)]
        · intro r hr
          cases r with
          | inl x => exact ⟨hr.1, by rw [hr.2]; rfl⟩
          | inr x => rw [Bool.true_and]; exact hr
      | false =>
        refine .inr ⟨.inl i, ?_, by omega, by rfl⟩
        rw [Tr.run_true (show (!false) = true from rfl), Tr.run_leaf]) 0 () (by omega) trivial
  have h1 : sh_slices_IndexFunc_api_Packet_l1 l l.length 0 = some r := h1
  rw [sh_slices_ContainsFunc_api_Packet, T_slices_ContainsFunc_api_Packet]
  cases r with
  | inl k =>
    simp only [List.drop_zero] at h2
    rw [Tr.run_bind (v := k) (by rw [sh_slices_IndexFunc_api_Packet, T_slices_IndexFunc_api_Packet, Tr.run_inl h1, Tr.run_leaf]), Tr.run_leaf, h2.2]
    simp [h2.1]
  | inr k =>
    simp only [List.drop_zero] at h2
    rw [Tr.run_bind (v := -1) (by rw [sh_slices_IndexFunc_api_Packet, T_slices_IndexFunc_api_Packet, Tr.run_inr h1, Tr.run_leaf]), Tr.run_leaf, h2]
    rfl

theorem cons_set {c : Consumer} (hl : c.Set.length ≤ 9223372036854775807) :
    ∃ r, sh_consumer_Good_l1 c.Set c.Set.length 0 c = some r ∧ (match r with | .inl b => b = false ∧ powsOk 1 (-1) c.Set = false | .inr x => x = c ∧ powsOk 1 (-1) c.Set = true) := by
  have := iter_rel (F := fun s : (List Power) × Int × Int × Consumer => (T_consumer_Good_l1 s.1 s.2.1 s.2.2.1 s.2.2.2).run)
    (fun s => s.1 = c.Set ∧ s.2.1 = c.Set.length ∧ 0 ≤ s.2.2.1 ∧ s.2.2.1 ≤ c.Set.length ∧ s.2.2.2 = c ∧ -1 ≤ prevV c.Set s.2.2.1 ∧ (0 < s.2.2.1 → 0 ≤ prevV c.Set s.2.2.1)) (fun s => c.Set.length - s.2.2.1.toNat)
    (fun s r => match r with | .inl b => b = false ∧ powsOk 1 (prevV c.Set s.2.2.1) (c.Set.drop s.2.2.1.toNat) = false | .inr x => x = c ∧ powsOk 1 (prevV c.Set s.2.2.1) (c.Set.drop s.2.2.1.toNat) = true) ?_ (c.Set, (c.Set.length : Int), 0, c) ⟨rfl, rfl, by simp, by simp, rfl, by simp [prevV], by simp⟩
  · exact this
  · rintro ⟨x0, x1, x2, x3⟩ ⟨h1, h2, h3, h4, h5, h6, h7⟩
    simp only at h1 h2 h3 h4 h5 h6 h7
    subst h5
    rw [h1, h2] at *
    simp only [T_consumer_Good_l1]
    by_cases hc : x2 < x3.Set.length
    · have hs := drop_step (l := x3.Set) (k := x2.toNat) (by omega) default
      rw [Tr.run_true (by simpa using hc), Tr.run_guard ⟨h3, hc⟩, Tr.run_guard (by
        intro h _
        simp only [decide_eq_true_eq] at h
        rw [i64_in (x := x2 - 1) (by omega) (by omega)]
        exact ⟨⟨by omega, by simp only [Sl.len]; omega⟩, trivial⟩)]
      rw [hs]
      have hp : (decide (x2 > 0) && decide ((x3.Set.getD (IntKind.i64.wrap (x2 - 1)).toNat default).V ≥ (x3.Set.getD x2.toNat default).V)) = (decide (x2 > 0) && decide (prevV x3.Set x2 ≥ (x3.Set.getD x2.toNat default).V)) := by
        by_cases h0 : x2 > 0
        · rw [i64_in (x := x2 - 1) (by omega) (by omega)]
          unfold prevV
          rw [if_neg (by omega)]
        · simp [h0]
      rw [hp]
      generalize hq : x3.Set.getD x2.toNat default = q at *
      by_cases hd : prevV x3.Set x2 < q.V ∧ q.V ≤ 5 ∧ 1 ≤ q.N ∧ q.N ≤ 1125899906842624
      · obtain ⟨d1, d2, d3, d4⟩ := hd
        have hw : IntKind.i64.wrap (x2 + 1) = x2 + 1 := i64_in (by omega) (by omega)
        have hpv : prevV x3.Set (x2 + 1) = q.V := by unfold prevV; rw [if_neg (by omega), show x2 + 1 - 1 = x2 by omega, hq]
        refine .inl ⟨_, by rw [Tr.run_false (by simp; omega), Tr.run_leaf, hw], ⟨rfl, rfl, ?_, ?_, rfl, ?_, ?_⟩, ?_, ?_⟩
        · simp only []; omega
        · simp only []; omega
        · simp only []; rw [hpv]; omega
        · simp only []; rw [hpv]; intro _; omega
        · simp only []; omega
        · simp only []
          rw [hpv, show (x2 + 1).toNat = x2.toNat + 1 by omega]
          intro r hr
          rw [powsOk, decide_eq_true d1, decide_eq_true d2, decide_eq_true d3, decide_eq_true d4]
          simpa using hr
      · refine .inr ⟨_, by rw [Tr.run_true (by
          by_cases h0 : x2 > 0
          · have := h7 h0
            simp [h0]; omega
          · have : prevV x3.Set x2 = -1 := by unfold prevV; rw [if_pos (by omega)]
            simp [h0]; omega), Tr.run_leaf], ?_⟩
        refine ⟨rfl, ?_⟩
        rw [powsOk]
        simp only [Bool.and_eq_false_iff, decide_eq_false_iff_not]
        omega
    · refine .inr ⟨_, by rw [Tr.run_false (by simpa using hc), Tr.run_leaf], ?_⟩
      refine ⟨rfl, ?_⟩
      rw [List.drop_eq_nil_of_le (by omega)]; rfl

theorem ripe_test (r : Ripe) : (((decide (r.Id < 1)) || (decide (r.Id > 1099511627776))) || (decide (r.Due < 0))) = !ripeOk r := by
  unfold ripeOk
  rw [Bool.eq_iff_iff]
  simp only [Bool.or_eq_true, Bool.not_eq_true', Bool.and_eq_false_iff, decide_eq_true_eq, decide_eq_false_iff_not]
  omega

theorem cons_ripes {l : List Ripe} {c : Consumer} (hl : l.length ≤ 9223372036854775807) :
    sh_consumer_Good_l2 l l.length 0 c = some (if l.all ripeOk = true then .inr c else .inl false) := by
  rw [sh_consumer_Good_l2]
  refine loop_all (F := fun s : (List Ripe) × Int × Int × Consumer => (T_consumer_Good_l2 s.1 s.2.1 s.2.2.1 s.2.2.2).run) l default (fun i => (l, (l.length : Int), (i : Int), c)) ripeOk false c ?_ ?_ ?_
  · simp only [T_consumer_Good_l2]; rw [Tr.run_false (by simp), Tr.run_leaf]
  · intro i hi hp
    simp only [T_consumer_Good_l2, Int.toNat_natCast, ripe_test]
    rw [Tr.run_true (by simpa using hi), Tr.run_guard ⟨by omega, by rw [sl_len_ripes]; omega⟩, Tr.run_false (by rw [hp]; rfl), Tr.run_leaf, i64_nat (by omega)]
  · intro i hi hp
    simp only [T_consumer_Good_l2, Int.toNat_natCast, ripe_test]
    rw [Tr.run_true (by simpa using hi), Tr.run_guard ⟨by omega, by rw [sl_len_ripes]; omega⟩, Tr.run_true (by rw [hp]; rfl), Tr.run_leaf]

theorem nums_test (c : Consumer) : (((((((c.On && c.Gone) || (decide (c.Height < 0))) || (decide (c.Height ≥ 1099511627776))) || (decide (c.Time < 0))) || (decide (c.Time > 1099511627776))) || (decide (c.Id < 0))) || (decide (c.Id > 1099511627776))) = !decide (numsC c) := by
  rw [Bool.eq_iff_iff]
  rw [Bool.not_eq_true', decide_eq_false_iff_not]
  unfold numsC
  generalize (c.On && c.Gone) = b
  cases b <;> simp only [Bool.or_eq_true, decide_eq_true_eq, reduceCtorEq, true_or, false_or, false_and, true_and, not_false_eq_true, iff_true] <;> omega

theorem pl_consGood {c : Consumer} (h : FitC 140737488351232 c) : sh_consumer_Good c = some (GoodC c) := by
  have e1 := h.set; have e2 := h.pend; have e3 := h.ripes
  rw [sh_consumer_Good, T_consumer_Good]
  simp only [nums_test, pl_Good, Option.isSome_some, Option.getD_some]
  rw [Tr.run_guard (by simp)]
  unfold GoodC
  by_cases h1 : numsC c
  · by_cases h2 : GoodL c.Out
    · rw [Tr.run_false (by simp [h1, h2]), decide_eq_true h1, decide_eq_true h2]
      obtain ⟨r, f1, f2⟩ := cons_set (c := c) (by omega)
      cases r with
      | inl b => rw [Tr.run_inl f1, Tr.run_leaf, f2.1, f2.2]; rfl
      | inr x =>
        rw [Tr.run_inr f1, f2.1, f2.2]
        have f3 := cons_ripes (l := c.Ripes) (c := c) (by omega)
        by_cases h4 : c.Ripes.all ripeOk = true
        · rw [if_pos h4] at f3
          rw [Tr.run_inr f3, Tr.run_bind (pend_all (by omega) h.ps), Tr.run_leaf, h4]
          simp
        · rw [if_neg h4] at f3
          rw [Tr.run_inl f3, Tr.run_leaf]
          simp [h4]
    · rw [Tr.run_true (by simp [h2]), Tr.run_leaf, decide_eq_false h2]
      simp
  · rw [Tr.run_true (by simp [h1]), Tr.run_leaf, decide_eq_false h1]
    simp

theorem ref_set {l : List Power} (hl : l.length ≤ 9223372036854775807) : sh_ref_isSet l = some (powsOk 1 (-1) l) := by
  have : ∃ r, sh_ref_isSet_l1 (-1) l l.length 0 = some r ∧ (match r with | .inl b => b = false ∧ powsOk 1 (-1) l = false | .inr _ => powsOk 1 (-1) l = true) := by
    have := iter_rel (F := fun s : Int × (List Power) × Int × Int => (T_ref_isSet_l1 s.1 s.2.1 s.2.2.1 s.2.2.2).run)
      (fun s => s.2.1 = l ∧ s.2.2.1 = l.length ∧ 0 ≤ s.2.2.2 ∧ s.2.2.2 ≤ l.length) (fun s => l.length - s.2.2.2.toNat)
      (fun s r => match r with | .inl b => b = false ∧ powsOk 1 s.1 (l.drop s.2.2.2.toNat) = false | .inr x => powsOk 1 s.1 (l.drop s.2.2.2.toNat) = true) ?_ (-1, l, (l.length : Int), 0) ⟨rfl, rfl, by simp, by simp⟩
    · exact this
    · rintro ⟨x0, x1, x2, x3⟩ ⟨h1, h2, h3, h4⟩
      simp only at h1 h2 h3 h4
      rw [h1, h2] at *
      simp only [T_ref_isSet_l1]
      by_cases hc : x3 < l.length
      · have hs := drop_step (l := l) (k := x3.toNat) (by omega) default
        rw [Tr.run_true (by simpa using hc), Tr.run_guard ⟨h3, hc⟩, hs]
        generalize hq : l.getD x3.toNat default = q at *
        by_cases hd : x0 < q.V ∧ q.V ≤ 5 ∧ 1 ≤ q.N ∧ q.N ≤ 1125899906842624
        · obtain ⟨d1, d2, d3, d4⟩ := hd
          have hw : IntKind.i64.wrap (x3 + 1) = x3 + 1 := i64_in (by omega) (by omega)
          refine .inl ⟨_, by rw [Tr.run_false (by simp; omega), Tr.run_leaf, hw], ⟨rfl, rfl, ?_, ?_⟩, ?_, ?_⟩
          · simp only []; omega
          · simp only []; omega
          · simp only []; omega
          · simp only []
            rw [show (x3 + 1).toNat = x3.toNat + 1 by omega]
            intro r hr
            rw [powsOk, decide_eq_true d1, decide_eq_true d2, decide_eq_true d3, decide_eq_true d4]
            simpa using hr
        · refine .inr ⟨_, by rw [Tr.run_true (by simp; omega), Tr.run_leaf], ?_⟩
          refine ⟨rfl, ?_⟩
          rw [powsOk]
          simp only [Bool.and_eq_false_iff, decide_eq_false_iff_not]
          omega
      · refine .inr ⟨_, by rw [Tr.run_false (by simpa using hc), Tr.run_leaf], ?_⟩
        rw [List.drop_eq_nil_of_le (by omega)]; rfl
  obtain ⟨r, h1, h2⟩ := this
  rw [sh_ref_isSet, T_ref_isSet]
  cases r with
  | inl b => rw [Tr.run_inl h1, Tr.run_leaf, h2.1, h2.2]
  | inr x => rw [Tr.run_inr h1, Tr.run_leaf, h2]

theorem ref_pend {l : List Packet} {c : Consumer} (hl : l.length ≤ 9223372036854775807) (hp : ∀ p, p ∈ l → p.Set.length * 16 ≤ 140737488351232 ∧ p.Done.length * 8 ≤ 140737488351232) :
    sh_ref_GoodConsumer_l1 l l.length 0 c = some (if l.all pendOk = true then .inr c else .inl false) := by
  rw [sh_ref_GoodConsumer_l1]
  have test : ∀ i, i < l.length → (((l.getD i default).Kind != 1) || (((sh_ref_GoodPacket (l.getD i default)).getD default) != 0)) = !pendOk (l.getD i default) := by
    intro i hi
    obtain ⟨p1, p2⟩ := hp _ (getD_mem (l := l) (k := i) hi default)
    rw [pl_refgoodP p1 p2, Option.getD_some]
    unfold pendOk
    rw [Bool.not_and]; rfl
  refine loop_all (F := fun s : (List Packet) × Int × Int × Consumer => (T_ref_GoodConsumer_l1 s.1 s.2.1 s.2.2.1 s.2.2.2).run) l default (fun i => (l, (l.length : Int), (i : Int), c)) pendOk false c ?_ ?_ ?_
  · simp only [T_ref_GoodConsumer_l1]; rw [Tr.run_false (by simp), Tr.run_leaf]
  · intro i hi hq
    obtain ⟨p1, p2⟩ := hp _ (getD_mem (l := l) (k := i) hi default)
    simp only [T_ref_GoodConsumer_l1, Int.toNat_natCast]
    rw [Tr.run_true (by simpa using hi), Tr.run_guard ⟨by omega, by rw [sl_len_packets]; omega⟩, Tr.run_guard (by rw [pl_refgoodP p1 p2]; simp), Tr.run_false (by rw [test i hi, hq]; rfl), Tr.run_leaf, i64_nat (by omega)]
  · intro i hi hq
    obtain ⟨p1, p2⟩ := hp _ (getD_mem (l := l) (k := i) hi default)
    simp only [T_ref_GoodConsumer_l1, Int.toNat_natCast]
    rw [Tr.run_true (by simpa using hi), Tr.run_guard ⟨by omega, by rw [sl_len_packets]; omega⟩, Tr.run_guard (by rw [pl_refgoodP p1 p2]; simp), Tr.run_true (by rw [test i hi, hq]; rfl), Tr.run_leaf]

theorem ref_ripes {l : List Ripe} {c : Consumer} (hl : l.length ≤ 9223372036854775807) :
    sh_ref_GoodConsumer_l2 l l.length 0 c = some (if l.all ripeOk = true then .inr c else .inl false) := by
  rw [sh_ref_GoodConsumer_l2]
  refine loop_all (F := fun s : (List Ripe) × Int × Int × Consumer => (T_ref_GoodConsumer_l2 s.1 s.2.1 s.2.2.1 s.2.2.2).run) l default (fun i => (l, (l.length : Int), (i : Int), c)) ripeOk false c ?_ ?_ ?_
  · simp only [T_ref_GoodConsumer_l2]; rw [Tr.run_false (by simp), Tr.run_leaf]
  · intro i hi hp
    simp only [T_ref_GoodConsumer_l2, Int.toNat_natCast, ripe_test]
    rw [Tr.run_true (by simpa using hi), Tr.run_guard ⟨by omega, by rw [sl_len_ripes]; omega⟩, Tr.run_false (by rw [hp]; rfl), Tr.run_leaf, i64_nat (by omega)]
  · intro i hi hp
    simp only [T_ref_GoodConsumer_l2, Int.toNat_natCast, ripe_test]
    rw [Tr.run_true (by simpa using hi), Tr.run_guard ⟨by omega, by rw [sl_len_ripes]; omega⟩, Tr.run_true (by rw [hp]; rfl), Tr.run_leaf]

theorem nums_test2 (c : Consumer) : (((((((!(c.On && c.Gone)) && (decide (c.Height ≥ 0))) && (decide (c.Height < 1099511627776))) && (decide (c.Time ≥ 0))) && (decide (c.Time ≤ 1099511627776))) && (decide (c.Id ≥ 0))) && (decide (c.Id ≤ 1099511627776))) = decide (numsC c) := by
  rw [Bool.eq_iff_iff]
  rw [decide_eq_true_iff]
  unfold numsC
  generalize (c.On && c.Gone) = b
  cases b <;> simp only [Bool.and_eq_true, Bool.not_false, Bool.not_true, decide_eq_true_eq, reduceCtorEq, false_and, true_and] <;> omega

theorem pl_refconsGood {c : Consumer} (h : FitC 140737488351232 c) : sh_ref_GoodConsumer c = some (GoodC c) := by
  have e1 := h.set; have e2 := h.pend; have e3 := h.ripes; have e4 := h.due
  rw [sh_ref_GoodConsumer, T_ref_GoodConsumer]
  have f1 := ref_pend (l := c.Pending) (c := c) (by omega) h.ps
  have f2 := ref_ripes (l := c.Ripes) (c := c) (by omega)
  unfold GoodC
  by_cases h1 : c.Pending.all pendOk = true
  · rw [if_pos h1] at f1
    rw [Tr.run_inr f1]
    by_cases h2 : c.Ripes.all ripeOk = true
    · rw [if_pos h2] at f2
      rw [Tr.run_inr f2]
      simp only [nums_test2, pl_refGood (l := c.Out) (by omega), ref_set (l := c.Set) (by omega), Option.isSome_some, Option.getD_some]
      rw [Tr.run_guard (by simp), Tr.run_guard (by simp), Tr.run_leaf, h1, h2]
      simp
    · rw [if_neg h2] at f2
      rw [Tr.run_inl f2, Tr.run_leaf]
      simp [h2]
  · rw [if_neg h1] at f1
    rw [Tr.run_inl f1, Tr.run_leaf]
    simp [h1]

end Go.Proofs.Ythhdljniheaeoaa.Ab
