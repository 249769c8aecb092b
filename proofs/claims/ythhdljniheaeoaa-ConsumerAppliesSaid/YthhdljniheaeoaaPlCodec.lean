/-
  Packets and their bytes, with no program in sight: Good and Encode, twice told, are the same.
-/
import Derived.Test.YthhdljniheaeoaaPlBase
import Derived.Test.YthhdljniheaeoaaPlLine
import Derived.Test.YthhdljniheaeoaaFCodec
import Derived.Test.YthhdljniheaeoaaAbOpen
namespace Go.Proofs.Ythhdljniheaeoaa.Ab
open Go Go.RowKit
set_option linter.unusedVariables false
set_option linter.unusedSimpArgs false

theorem drop_step {α : Type} {l : List α} {k : Nat} (h : k < l.length) (d : α) : l.drop k = l.getD k d :: l.drop (k + 1) := by
  rw [List.drop_eq_getElem_cons h, List.getD_eq_getElem?_getD, List.getElem?_eq_getElem h]; rfl

/-- Powers rise, from behind the one before, and none is too great or too small. -/
def powsOk (m : Int) : Int → List Power → Bool
  | _, [] => true
  | p, q :: l => decide (p < q.V) && decide (q.V ≤ 5) && decide (m ≤ q.N) && decide (q.N ≤ 1125899906842624) && powsOk m q.V l

def doneOk : Int → List Int → Bool
  | _, [] => true
  | p, q :: l => decide (p < q) && decide (q ≤ 5) && doneOk q l

def goodP (p : Packet) : Int :=
  if p.Kind < 1 ∨ 4 < p.Kind then 3
  else if (p.Id < 1 ∨ 1099511627776 < p.Id) ∨ (3 ≤ p.Kind ∧ (p.V < 0 ∨ 5 < p.V ∨ p.N < 1 ∨ 1125899906842624 < p.N)) then 2
  else if (p.Kind ≤ 2 ∧ (p.V ≠ 0 ∨ p.N ≠ 0)) ∨ (p.Kind ≠ 1 ∧ (0 < p.Set.length ∨ 0 < p.Done.length)) then 1
  else if powsOk 0 (-1) p.Set = false then 2
  else if doneOk (-1) p.Done = false then 2
  else 0

def prevV (l : List Power) (i : Int) : Int := if i = 0 then -1 else (l.getD (i - 1).toNat default).V
def prevN (l : List Int) (i : Int) : Int := if i = 0 then -1 else l.getD (i - 1).toNat 0

theorem pl_powers {l : List Power} {m : Int} (hl : l.length ≤ 9223372036854775807) : sh_codec_powers l m = some (powsOk m (-1) l) := by
  have key : ∃ r, sh_codec_powers_l1 l m l l.length 0 = some r ∧ (match r with | .inl b => b = false ∧ powsOk m (-1) l = false | .inr _ => powsOk m (-1) l = true) := by
    have := iter_rel (F := fun s : (List Power) × Int × (List Power) × Int × Int => (T_codec_powers_l1 s.1 s.2.1 s.2.2.1 s.2.2.2.1 s.2.2.2.2).run)
      (fun s => s.1 = l ∧ s.2.1 = m ∧ s.2.2.1 = l ∧ s.2.2.2.1 = l.length ∧ 0 ≤ s.2.2.2.2 ∧ s.2.2.2.2 ≤ l.length ∧ -1 ≤ prevV l s.2.2.2.2 ∧ (0 < s.2.2.2.2 → 0 ≤ prevV l s.2.2.2.2)) (fun s => l.length - s.2.2.2.2.toNat)
      (fun s r => match r with | .inl b => b = false ∧ powsOk m (prevV l s.2.2.2.2) (l.drop s.2.2.2.2.toNat) = false | .inr _ => powsOk m (prevV l s.2.2.2.2) (l.drop s.2.2.2.2.toNat) = true) ?_ (l, m, l, (l.length : Int), 0) ⟨rfl, rfl, rfl, rfl, by simp, by simp, by simp [prevV], by simp⟩
    · exact this
    · rintro ⟨x0, x1, x2, x3, x4⟩ ⟨h1, h2, h3, h4, h5, h6, h7, h8⟩
      simp only at h1 h2 h3 h4 h5 h6 h7 h8
      subst h1; subst h2; subst h3; subst h4
      simp only [T_codec_powers_l1]
      by_cases hc : x4 < x2.length
      · have hs := drop_step (l := x2) (k := x4.toNat) (by omega) default
        rw [Tr.run_true (by simpa using hc), Tr.run_guard ⟨h5, hc⟩, Tr.run_guard (by
          intro h _
          simp only [decide_eq_true_eq] at h
          rw [i64_in (x := x4 - 1) (by omega) (by omega)]
          exact ⟨⟨by omega, by simp only [Sl.len]; omega⟩, trivial⟩)]
        rw [hs]
        have hp : (decide (x4 > 0) && decide ((x2.getD (IntKind.i64.wrap (x4 - 1)).toNat default).V ≥ (x2.getD x4.toNat default).V)) = (decide (x4 > 0) && decide (prevV x2 x4 ≥ (x2.getD x4.toNat default).V)) := by
          by_cases h0 : x4 > 0
          · rw [i64_in (x := x4 - 1) (by omega) (by omega)]
            unfold prevV
            rw [if_neg (by omega)]
          · simp [h0]
        rw [hp]
        generalize hq : x2.getD x4.toNat default = q at *
        by_cases hd : prevV x2 x4 < q.V ∧ q.V ≤ 5 ∧ x1 ≤ q.N ∧ q.N ≤ 1125899906842624
        · obtain ⟨d1, d2, d3, d4⟩ := hd
          have hw : IntKind.i64.wrap (x4 + 1) = x4 + 1 := i64_in (by omega) (by omega)
          have hpv : prevV x2 (x4 + 1) = q.V := by unfold prevV; rw [if_neg (by omega), show x4 + 1 - 1 = x4 by omega, hq]
          refine .inl ⟨_, by rw [Tr.run_false (by simp; omega), Tr.run_leaf, hw], ⟨rfl, rfl, rfl, rfl, ?_, ?_, ?_, ?_⟩, ?_, ?_⟩
          · simp only []; omega
          · simp only []; omega
          · simp only []; rw [hpv]; omega
          · simp only []; rw [hpv]; intro _; omega
          · simp only []; omega
          · simp only []
            rw [hpv, show (x4 + 1).toNat = x4.toNat + 1 by omega]
            intro r hr
            rw [powsOk, decide_eq_true d1, decide_eq_true d2, decide_eq_true d3, decide_eq_true d4]
            simpa using hr
        · refine .inr ⟨_, by rw [Tr.run_true (by
            by_cases h0 : x4 > 0
            · have := h8 h0
              simp [h0]; omega
            · have : prevV x2 x4 = -1 := by unfold prevV; rw [if_pos (by omega)]
              simp [h0]; omega), Tr.run_leaf], ?_⟩
          refine ⟨rfl, ?_⟩
          rw [powsOk]
          simp only [Bool.and_eq_false_iff, decide_eq_false_iff_not]
          omega
      · refine .inr ⟨_, by rw [Tr.run_false (by simpa using hc), Tr.run_leaf], ?_⟩
        try simp only []
        rw [List.drop_eq_nil_of_le (by omega)]; rfl
  obtain ⟨r, h1, h2⟩ := key
  rw [sh_codec_powers, T_codec_powers]
  cases r with
  | inl b => rw [Tr.run_inl h1, Tr.run_leaf, h2.1, h2.2]
  | inr x => rw [Tr.run_inr h1, Tr.run_leaf, h2]

theorem pl_done {p : Packet} {l : List Int} (hp : p.Done = l) (hl : l.length ≤ 9223372036854775807) :
    ∃ r, sh_codec_Good_l1 l l.length 0 p = some r ∧ (match r with | .inl b => b = 2 ∧ doneOk (-1) l = false | .inr _ => doneOk (-1) l = true) := by
  have := iter_rel (F := fun s : (List Int) × Int × Int × Packet => (T_codec_Good_l1 s.1 s.2.1 s.2.2.1 s.2.2.2).run)
    (fun s => s.1 = l ∧ s.2.1 = l.length ∧ 0 ≤ s.2.2.1 ∧ s.2.2.1 ≤ l.length ∧ s.2.2.2 = p ∧ (0 < s.2.2.1 → 0 ≤ prevN l s.2.2.1)) (fun s => l.length - s.2.2.1.toNat)
    (fun s r => match r with | .inl b => b = 2 ∧ doneOk (prevN l s.2.2.1) (l.drop s.2.2.1.toNat) = false | .inr _ => doneOk (prevN l s.2.2.1) (l.drop s.2.2.1.toNat) = true) ?_ (l, (l.length : Int), 0, p) ⟨rfl, rfl, by simp, by simp, rfl, by simp⟩
  · exact this
  · rintro ⟨x0, x1, x2, x3⟩ ⟨h1, h2, h3, h4, h5, h6⟩
    simp only at h1 h2 h3 h4 h5 h6
    rw [h1, h2, h5] at *
    simp only [T_codec_Good_l1, hp]
    by_cases hc : x2 < l.length
    · have hs := drop_step (l := l) (k := x2.toNat) (by omega) 0
      rw [Tr.run_true (by simpa using hc), Tr.run_guard ⟨h3, hc⟩, Tr.run_guard (by
        intro h _
        simp only [decide_eq_true_eq] at h
        rw [i64_in (x := x2 - 1) (by omega) (by omega)]
        exact ⟨⟨by omega, by simp only [Sl.len]; omega⟩, trivial⟩)]
      rw [hs]
      have hp : (decide (x2 > 0) && decide (l.getD (IntKind.i64.wrap (x2 - 1)).toNat 0 ≥ l.getD x2.toNat 0)) = (decide (x2 > 0) && decide (prevN l x2 ≥ l.getD x2.toNat 0)) := by
        by_cases h0 : x2 > 0
        · rw [i64_in (x := x2 - 1) (by omega) (by omega)]
          unfold prevN
          rw [if_neg (by omega)]
        · simp [h0]
      rw [hp]
      generalize hq : l.getD x2.toNat 0 = q at *
      by_cases hd : prevN l x2 < q ∧ q ≤ 5
      · obtain ⟨d1, d2⟩ := hd
        have hw : IntKind.i64.wrap (x2 + 1) = x2 + 1 := i64_in (by omega) (by omega)
        have hpv : prevN l (x2 + 1) = q := by unfold prevN; rw [if_neg (by omega), show x2 + 1 - 1 = x2 by omega, hq]
        have hq0 : 0 ≤ q := by
          by_cases h0 : x2 > 0
          · have := h6 h0; omega
          · have : prevN l x2 = -1 := by unfold prevN; rw [if_pos (by omega)]
            omega
        refine .inl ⟨_, by rw [Tr.run_false (by simp; omega), Tr.run_leaf, hw], ⟨rfl, rfl, ?_, ?_, rfl, ?_⟩, ?_, ?_⟩
        · simp only []; omega
        · simp only []; omega
        · simp only []; rw [hpv]; intro _; omega
        · simp only []; omega
        · simp only []
          rw [hpv, show (x2 + 1).toNat = x2.toNat + 1 by omega]
          intro r hr
          rw [doneOk, decide_eq_true d1, decide_eq_true d2]
          simpa using hr
      · refine .inr ⟨_, by rw [Tr.run_true (by
          by_cases h0 : x2 > 0
          · have := h6 h0
            simp [h0]; omega
          · have : prevN l x2 = -1 := by unfold prevN; rw [if_pos (by omega)]
            simp [h0]; omega), Tr.run_leaf], ?_⟩
        refine ⟨rfl, ?_⟩
        rw [doneOk]
        simp only [Bool.and_eq_false_iff, decide_eq_false_iff_not]
        omega
    · refine .inr ⟨_, by rw [Tr.run_false (by simpa using hc), Tr.run_leaf], ?_⟩
      try simp only []
      rw [List.drop_eq_nil_of_le (by omega)]; rfl

theorem pl_refpows {l : List Power} {p : Packet} (hl : l.length ≤ 9223372036854775807) :
    ∃ r, sh_ref_GoodPacket_l1 (-1) l l.length 0 p = some r ∧ (match r with | .inl b => b = 2 ∧ powsOk 0 (-1) l = false | .inr x => x = p ∧ powsOk 0 (-1) l = true) := by
  have := iter_rel (F := fun s : Int × (List Power) × Int × Int × Packet => (T_ref_GoodPacket_l1 s.1 s.2.1 s.2.2.1 s.2.2.2.1 s.2.2.2.2).run)
    (fun s => s.2.1 = l ∧ s.2.2.1 = l.length ∧ 0 ≤ s.2.2.2.1 ∧ s.2.2.2.1 ≤ l.length ∧ s.2.2.2.2 = p) (fun s => l.length - s.2.2.2.1.toNat)
    (fun s r => match r with | .inl b => b = 2 ∧ powsOk 0 s.1 (l.drop s.2.2.2.1.toNat) = false | .inr x => x = p ∧ powsOk 0 s.1 (l.drop s.2.2.2.1.toNat) = true) ?_ (-1, l, (l.length : Int), 0, p) ⟨rfl, rfl, by simp, by simp, rfl⟩
  · exact this
  · rintro ⟨x0, x1, x2, x3, x4⟩ ⟨h1, h2, h3, h4, h5⟩
    simp only at h1 h2 h3 h4 h5
    rw [h1, h2, h5] at *
    simp only [T_ref_GoodPacket_l1]
    by_cases hc : x3 < l.length
    · have hs := drop_step (l := l) (k := x3.toNat) (by omega) default
      rw [Tr.run_true (by simpa using hc), Tr.run_guard ⟨h3, hc⟩, hs]
      generalize hq : l.getD x3.toNat default = q at *
      by_cases hd : x0 < q.V ∧ q.V ≤ 5 ∧ 0 ≤ q.N ∧ q.N ≤ 1125899906842624
      · obtain ⟨d1, d2, d3, d4⟩ := hd
        have hw : IntKind.i64.wrap (x3 + 1) = x3 + 1 := i64_in (by omega) (by omega)
        refine .inl ⟨_, by rw [Tr.run_false (by simp; omega), Tr.run_leaf, hw], ⟨rfl, rfl, ?_, ?_, rfl⟩, ?_, ?_⟩
        · simp only []; omega
        · simp only []; omega
        · simp only []; omega
        · simp only []
          rw [show (x3 + 1).toNat = x3.toNat + 1 by omega]
          intro r hr
          rw [powsOk, decide_eq_true d1, decide_eq_true d2, decide_eq_true d3, decide_eq_true d4]
          simpa using hr
      · refine .inr ⟨_, by rw [Tr.run_true (by simp; omega), Tr.run_leaf], ?_⟩
        refine ⟨rfl, ?_⟩
        rw [powsOk]
        simp only [Bool.and_eq_false_iff, decide_eq_false_iff_not]
        omega
    · refine .inr ⟨_, by rw [Tr.run_false (by simpa using hc), Tr.run_leaf], ?_⟩
      refine ⟨rfl, ?_⟩
      rw [List.drop_eq_nil_of_le (by omega)]; rfl

theorem pl_refdone {l : List Int} (hl : l.length ≤ 9223372036854775807) :
    ∃ r, sh_ref_GoodPacket_l2 (-1) l l.length 0 = some r ∧ (match r with | .inl b => b = 2 ∧ doneOk (-1) l = false | .inr _ => doneOk (-1) l = true) := by
  have := iter_rel (F := fun s : Int × (List Int) × Int × Int => (T_ref_GoodPacket_l2 s.1 s.2.1 s.2.2.1 s.2.2.2).run)
    (fun s => s.2.1 = l ∧ s.2.2.1 = l.length ∧ 0 ≤ s.2.2.2 ∧ s.2.2.2 ≤ l.length) (fun s => l.length - s.2.2.2.toNat)
    (fun s r => match r with | .inl b => b = 2 ∧ doneOk s.1 (l.drop s.2.2.2.toNat) = false | .inr _ => doneOk s.1 (l.drop s.2.2.2.toNat) = true) ?_ (-1, l, (l.length : Int), 0) ⟨rfl, rfl, by simp, by simp⟩
  · exact this
  · rintro ⟨x0, x1, x2, x3⟩ ⟨h1, h2, h3, h4⟩
    simp only at h1 h2 h3 h4
    rw [h1, h2] at *
    simp only [T_ref_GoodPacket_l2]
    by_cases hc : x3 < l.length
    · have hs := drop_step (l := l) (k := x3.toNat) (by omega) 0
      rw [Tr.run_true (by simpa using hc), Tr.run_guard ⟨h3, hc⟩, hs]
      generalize hq : l.getD x3.toNat 0 = q at *
      by_cases hd : x0 < q ∧ q ≤ 5
      · obtain ⟨d1, d2⟩ := hd
        have hw : IntKind.i64.wrap (x3 + 1) = x3 + 1 := i64_in (by omega) (by omega)
        refine .inl ⟨_, by rw [Tr.run_false (by simp; omega), Tr.run_leaf, hw], ⟨rfl, rfl, ?_, ?_⟩, ?_, ?_⟩
        · simp only []; omega
        · simp only []; omega
        · simp only []; omega
        · simp only []
          rw [show (x3 + 1).toNat = x3.toNat + 1 by omega]
          intro r hr
          rw [doneOk, decide_eq_true d1, decide_eq_true d2]
          simpa using hr
      · refine .inr ⟨_, by rw [Tr.run_true (by simp; omega), Tr.run_leaf], ?_⟩
        refine ⟨rfl, ?_⟩
        rw [doneOk]
        simp only [Bool.and_eq_false_iff, decide_eq_false_iff_not]
        omega
    · refine .inr ⟨_, by rw [Tr.run_false (by simpa using hc), Tr.run_leaf], ?_⟩
      try simp only []
      rw [List.drop_eq_nil_of_le (by omega)]; rfl

theorem pl_goodP {p : Packet} (h1 : p.Set.length * 16 ≤ 140737488351232) (h2 : p.Done.length * 8 ≤ 140737488351232) : sh_codec_Good p = some (goodP p) := by
  rw [sh_codec_Good, T_codec_Good]
  unfold goodP
  by_cases c1 : p.Kind < 1 ∨ 4 < p.Kind
  · rw [Tr.run_true (by simpa using c1), Tr.run_leaf, if_pos c1]
  · rw [Tr.run_false (by simpa using c1), if_neg c1]
    by_cases c2 : p.Id < 1 ∨ 1099511627776 < p.Id
    · rw [Tr.run_true (by simpa using c2), Tr.run_leaf, if_pos (.inl c2)]
    · rw [Tr.run_false (by simpa using c2)]
      by_cases c3 : 3 ≤ p.Kind ∧ (p.V < 0 ∨ 5 < p.V ∨ p.N < 1 ∨ 1125899906842624 < p.N)
      · rw [Tr.run_true (by simp; omega), Tr.run_leaf, if_pos (.inr c3)]
      · rw [Tr.run_false (by simp; omega), if_neg (by simp only [not_or]; exact ⟨by simpa using c2, c3⟩)]
        by_cases c4 : (p.Kind ≤ 2 ∧ (p.V ≠ 0 ∨ p.N ≠ 0)) ∨ (p.Kind ≠ 1 ∧ (0 < p.Set.length ∨ 0 < p.Done.length))
        · rw [Tr.run_true (by rw [i64_in (x := (p.Set.length : Int) + p.Done.length) (by omega) (by omega)]; simp; omega), Tr.run_leaf, if_pos c4]
        · rw [Tr.run_false (by rw [i64_in (x := (p.Set.length : Int) + p.Done.length) (by omega) (by omega)]; simp; omega), if_neg c4, Tr.run_bind (pl_powers (by omega))]
          by_cases c5 : powsOk 0 (-1) p.Set = false
          · rw [Tr.run_true (by rw [c5]; rfl), Tr.run_leaf, if_pos c5]
          · rw [Tr.run_false (by simpa using c5), if_neg c5]
            obtain ⟨r, e1, e2⟩ := pl_done (p := p) (l := p.Done) rfl (by omega)
            cases r with
            | inl b => rw [Tr.run_inl e1, Tr.run_leaf, e2.1, if_pos e2.2]
            | inr b => rw [Tr.run_inr e1, Tr.run_leaf, if_neg (by rw [e2]; simp)]

theorem pl_refgoodP {p : Packet} (h1 : p.Set.length * 16 ≤ 140737488351232) (h2 : p.Done.length * 8 ≤ 140737488351232) : sh_ref_GoodPacket p = some (goodP p) := by
  rw [sh_ref_GoodPacket, T_ref_GoodPacket]
  unfold goodP
  by_cases c1 : p.Kind < 1 ∨ 4 < p.Kind
  · rw [Tr.run_true (by simpa using c1), Tr.run_leaf, if_pos c1]
  · rw [Tr.run_false (by simpa using c1), if_neg c1]
    have k3 : (3 ≤ p.Kind) ↔ (p.Kind = 3 ∨ p.Kind = 4) := by omega
    by_cases c2 : (p.Id < 1 ∨ 1099511627776 < p.Id) ∨ (3 ≤ p.Kind ∧ (p.V < 0 ∨ 5 < p.V ∨ p.N < 1 ∨ 1125899906842624 < p.N))
    · rw [Tr.run_true (by simp; omega), Tr.run_leaf, if_pos c2]
    · rw [Tr.run_false (by rw [Bool.eq_false_iff]; intro h; apply c2; simp at h; omega), if_neg c2]
      by_cases c4 : (p.Kind ≤ 2 ∧ (p.V ≠ 0 ∨ p.N ≠ 0)) ∨ (p.Kind ≠ 1 ∧ (0 < p.Set.length ∨ 0 < p.Done.length))
      · rw [Tr.run_true (by simp; omega), Tr.run_leaf, if_pos c4]
      · rw [Tr.run_false (by rw [Bool.eq_false_iff]; intro h; apply c4; simp at h; omega), if_neg c4]
        obtain ⟨r, e1, e2⟩ := pl_refpows (l := p.Set) (p := p) (by omega)
        cases r with
        | inl b => rw [Tr.run_inl e1, Tr.run_leaf, e2.1, if_pos e2.2]
        | inr x =>
          obtain ⟨rfl, e3⟩ := e2
          rw [Tr.run_inr e1, if_neg (by rw [e3]; simp)]
          obtain ⟨r, e1, e2⟩ := pl_refdone (l := x.Done) (by omega)
          cases r with
          | inl b => rw [Tr.run_inl e1, Tr.run_leaf, e2.1, if_pos e2.2]
          | inr b => rw [Tr.run_inr e1, Tr.run_leaf, if_neg (by rw [e2]; simp)]

/-- A number's byte number i, and its last k bytes, the greatest first. -/
def byt (x : Int) (i : Nat) : UInt8 := UInt8.ofNat (x.toNat / 256 ^ i)
def be (x : Int) : Nat → List UInt8
  | 0 => []
  | k + 1 => byt x k :: be x k

theorem be_length {x : Int} : ∀ k, (be x k).length = k
  | 0 => rfl
  | k + 1 => by rw [be, List.length_cons, be_length k]

theorem u8_wrap (y : Int) : IntKind.u8.wrap y = y % 256 := by
  unfold IntKind.wrap
  simp [IntKind.bits, IntKind.signed]

theorem u64_in {y : Int} (h0 : 0 ≤ y) (h1 : y ≤ 9223372036854775807) : IntKind.u64.wrap y = y := by
  unfold IntKind.wrap
  simp [IntKind.bits, IntKind.signed]
  omega

theorem put_byte {x : Int} (hx : 0 ≤ x) {i : Nat} (hi : i ≤ 7) :
    (IntKind.u8.wrap (Int.fdiv x (2 ^ (min (IntKind.u64.wrap (IntKind.i64.wrap (8 * (i : Int)))).toNat 64)))) = ((x.toNat / 256 ^ i % 256 : Nat) : Int) := by
  rw [i64_in (by omega) (by omega), u64_in (by omega) (by omega), u8_wrap]
  rw [show min (8 * (i : Int)).toNat 64 = 8 * i by omega, Int.fdiv_eq_ediv_of_nonneg _ (Int.le_of_lt (Int.pow_pos (by omega)))]
  obtain ⟨n, rfl⟩ := Int.eq_ofNat_of_zero_le hx
  have h2 : (2 : Int) ^ (8 * i) = ((256 ^ i : Nat) : Int) := by rw [Int.pow_mul, Int.natCast_pow]; rfl
  rw [h2, Int.toNat_natCast]
  rfl

theorem put_u8 {x : Int} (hx : 0 ≤ x) {i : Nat} (hi : i ≤ 7) :
    UInt8.ofNat (IntKind.u8.wrap (Int.fdiv x (2 ^ (min (IntKind.u64.wrap (IntKind.i64.wrap (8 * (i : Int)))).toNat 64)))).toNat = byt x i := by
  rw [put_byte hx hi, Int.toNat_natCast]
  unfold byt
  apply UInt8.toNat_inj.1
  rw [UInt8.toNat_ofNat', UInt8.toNat_ofNat']
  omega

theorem pl_put {x : Int} {k : Nat} {b : List UInt8} (hx : 0 ≤ x) (hk : k ≤ 7) (hk0 : 0 < k) (hb : b.length + k ≤ 140737488355328) : sh_codec_put x k b = some (b ++ be x k) := by
  have key : sh_codec_put_l1 x (k - 1 : Int) b = some (b ++ be x k) := by
    have := iter_fun (F := fun s : Int × Int × (List UInt8) => (T_codec_put_l1 s.1 s.2.1 s.2.2).run)
      (fun s => s.1 = x ∧ -1 ≤ s.2.1 ∧ s.2.1 ≤ 6 ∧ s.2.2.length + (s.2.1 + 1).toNat ≤ 140737488355328) (fun s => (s.2.1 + 1).toNat) (fun s => s.2.2 ++ be x (s.2.1 + 1).toNat) ?_ (x, (k - 1 : Int), b) ⟨rfl, by simp only []; omega, by simp only []; omega, by simp only []; omega⟩
    · rw [sh_codec_put_l1, this]; simp only []; rw [show ((k : Int) - 1 + 1).toNat = k by omega]
    · rintro ⟨y, i, c⟩ ⟨h1, h2, h3, h4⟩
      simp only at h1 h2 h3 h4
      subst h1
      simp only [T_codec_put_l1]
      by_cases hc : i ≥ 0
      · obtain ⟨n, rfl⟩ := Int.eq_ofNat_of_zero_le hc
        have hw : IntKind.i64.wrap ((n : Int) - 1) = (n : Int) - 1 := i64_in (by omega) (by omega)
        refine .inl ⟨(y, (n : Int) - 1, c ++ [byt y n]), ?_, ⟨rfl, by simp only []; omega, by simp only []; omega, by simp only [List.length_append, List.length_singleton]; omega⟩, by simp only []; omega, ?_⟩
        · rw [Tr.run_true (by simp), Tr.run_guard (by rw [i64_in (by omega) (by omega), u64_in (by omega) (by omega)]; omega), Tr.run_guard (by rw [put_byte hx (by omega)]; omega), put_u8 hx (by omega), hw, Tr.run_guard (by simp only [Sl.len, List.length_singleton]; omega), Tr.run_leaf]
        · simp only []
          rw [show ((n : Int) - 1 + 1).toNat = n by omega, show ((n : Int) + 1).toNat = n + 1 by omega, be]
          simp
      · refine .inr ?_
        rw [Tr.run_false (by simpa using hc), Tr.run_leaf, show (i + 1).toNat = 0 by omega, be, List.append_nil]
  rw [sh_codec_put, T_codec_put, i64_in (by omega) (by omega), Tr.run_bind key, Tr.run_leaf]

theorem byt_div {x : Int} (hx : 0 ≤ x) (i : Nat) : byt (x / 256) i = byt x (i + 1) := by
  obtain ⟨n, rfl⟩ := Int.eq_ofNat_of_zero_le hx
  unfold byt
  rw [show ((n : Int) / 256).toNat = n / 256 by omega, Int.toNat_natCast, Nat.pow_succ', Nat.div_div_eq_div_mul]

theorem be_low {x : Int} (hx : 0 ≤ x) : ∀ k, be x (k + 1) = be (x / 256) k ++ [byt x 0]
  | 0 => rfl
  | k + 1 => by rw [be, be_low hx k, be, byt_div hx k]; rfl

theorem powsOk_mem {m : Int} (hm : 0 ≤ m) : ∀ {l : List Power} {p : Int}, powsOk m p l = true → -1 ≤ p → ∀ q, q ∈ l → 0 ≤ q.V ∧ q.V ≤ 5 ∧ m ≤ q.N ∧ q.N ≤ 1125899906842624
  | [], _, _, _, q, h => by cases h
  | a :: l, p, h, hp, q, hq => by
    rw [powsOk] at h
    simp only [Bool.and_eq_true, decide_eq_true_eq] at h
    obtain ⟨⟨⟨⟨h1, h2⟩, h3⟩, h4⟩, h5⟩ := h
    rcases List.mem_cons.1 hq with rfl | hq
    · exact ⟨by omega, h2, h3, h4⟩
    · exact powsOk_mem hm h5 (by omega) q hq

theorem powsOk_len {m : Int} : ∀ {l : List Power} {p : Int}, powsOk m p l = true → p ≤ 5 → (l.length : Int) ≤ 5 - p
  | [], p, _, hp => by simp; omega
  | a :: l, p, h, hp => by
    rw [powsOk] at h
    simp only [Bool.and_eq_true, decide_eq_true_eq] at h
    obtain ⟨⟨⟨⟨h1, h2⟩, h3⟩, h4⟩, h5⟩ := h
    have := powsOk_len h5 h2
    rw [List.length_cons]; omega

theorem doneOk_mem : ∀ {l : List Int} {p : Int}, doneOk p l = true → -1 ≤ p → ∀ q, q ∈ l → 0 ≤ q ∧ q ≤ 5
  | [], _, _, _, q, h => by cases h
  | a :: l, p, h, hp, q, hq => by
    rw [doneOk] at h
    simp only [Bool.and_eq_true, decide_eq_true_eq] at h
    obtain ⟨⟨h1, h2⟩, h5⟩ := h
    rcases List.mem_cons.1 hq with rfl | hq
    · exact ⟨by omega, h2⟩
    · exact doneOk_mem h5 (by omega) q hq

theorem doneOk_len : ∀ {l : List Int} {p : Int}, doneOk p l = true → p ≤ 5 → (l.length : Int) ≤ 5 - p
  | [], p, _, hp => by simp; omega
  | a :: l, p, h, hp => by
    rw [doneOk] at h
    simp only [Bool.and_eq_true, decide_eq_true_eq] at h
    obtain ⟨⟨h1, h2⟩, h5⟩ := h
    have := doneOk_len h5 h2
    rw [List.length_cons]; omega

def encS (l : List Power) : List UInt8 := l.flatMap fun q => be q.V 1 ++ be q.N 7
def encD (l : List Int) : List UInt8 := l.flatMap fun q => be q 1
def encP (p : Packet) : List UInt8 := be p.Kind 1 ++ be p.Id 6 ++ be p.V 1 ++ be p.N 7 ++ be p.Set.length 1 ++ encS p.Set ++ be p.Done.length 1 ++ encD p.Done

/-- Bytes as a text. -/
def txt (l : List UInt8) : ByteArray := ⟨l.toArray⟩
theorem txt_size (l : List UInt8) : (txt l).size = l.length := rfl
theorem txt_append (l m : List UInt8) : txt l ++ txt m = txt (l ++ m) := by
  apply ByteArray.ext
  rw [ByteArray.data_append]
  simp [txt]
theorem txt_toList (l : List UInt8) : (txt l).data.toList = l := rfl

theorem pl_bytesOf {x : Int} {k : Nat} (hx : 0 ≤ x) (hx1 : x ≤ 9223372036854775807) (hk : k ≤ 7) : sh_ref_bytesOf x k = some (txt (be x k)) := by
  have key : sh_ref_bytesOf_l1 x k (txt []) = some (txt (be x k)) := by
    have := iter_rel (F := fun s : Int × Int × ByteArray => (T_ref_bytesOf_l1 s.1 s.2.1 s.2.2).run)
      (fun s => 0 ≤ s.1 ∧ s.1 ≤ 9223372036854775807 ∧ 0 ≤ s.2.1 ∧ ∃ b, s.2.2 = txt b ∧ b.length + s.2.1.toNat ≤ 7) (fun s => s.2.1.toNat) (fun s r => ∀ b, s.2.2 = txt b → r = txt (be s.1 s.2.1.toNat ++ b)) ?_ (x, (k : Int), txt []) ⟨hx, hx1, by simp only []; omega, [], rfl, by simp; omega⟩
    · obtain ⟨r, h1, h2⟩ := this
      rw [sh_ref_bytesOf_l1, h1, h2 [] rfl]
      simp
    · rintro ⟨y, i, c⟩ ⟨h1, h2, h3, b, h4, h5⟩
      simp only at h1 h2 h3 h4 h5
      subst h4
      simp only [T_ref_bytesOf_l1]
      by_cases hc : i > 0
      · obtain ⟨n, rfl⟩ : ∃ n : Nat, i = (n : Int) + 1 := ⟨(i - 1).toNat, by omega⟩
        have hb : IntKind.u8.wrap (Int.tmod y 256) = ((y.toNat % 256 : Nat) : Int) := by rw [u8_wrap, tmod_nn h1]; omega
        have hu : UInt8.ofNat (IntKind.u8.wrap (Int.tmod y 256)).toNat = byt y 0 := by
          rw [hb, Int.toNat_natCast]
          unfold byt
          apply UInt8.toNat_inj.1
          rw [UInt8.toNat_ofNat', UInt8.toNat_ofNat', Nat.pow_zero, Nat.div_one]
          omega
        have hd : IntKind.i64.wrap (Int.tdiv y 256) = y / 256 := by rw [tdiv_nn h1, i64_in (by omega) (by omega)]
        have hw : IntKind.i64.wrap ((n : Int) + 1 - 1) = n := by rw [i64_in (by omega) (by omega)]; omega
        have hsz : (txt [byt y 0]).size + (txt b).size ≤ 9223372036854775807 := by rw [txt_size, txt_size, List.length_singleton]; omega
        refine .inl ⟨(y / 256, (n : Int), txt (byt y 0 :: b)), ?_, ⟨by simp only []; omega, by simp only []; omega, by simp only []; omega, _, rfl, by simp only [List.length_cons]; omega⟩, by simp only []; omega, ?_⟩
        · rw [Tr.run_true (by simp), Tr.run_guard (by omega), Tr.run_guard (by rw [hb]; omega), hu, hd, hw]
          show (Tr.guard ((txt [byt y 0]).size + (txt b).size ≤ 9223372036854775807) (.guard ((256 : Int) ≠ 0) (.leaf (Sum.inl (y / 256, (n : Int), txt [byt y 0] ++ txt b))))).run = _
          rw [Tr.run_guard hsz, Tr.run_guard (by omega), Tr.run_leaf, txt_append]
          rfl
        · intro r hr b' hb'
          have e : b' = b := by
            have := congrArg (fun t => t.data.toList) hb'
            simpa [txt] using this.symm
          subst e
          rw [hr _ rfl]
          try simp only []
          rw [show ((n : Int) + 1).toNat = n + 1 by omega, Int.toNat_natCast, be_low h1]
          simp
      · refine .inr ⟨_, by rw [Tr.run_false (by simpa using hc), Tr.run_leaf], ?_⟩
        intro b' hb'
        try simp only at hb'
        rw [hb']
        try simp only []
        rw [show i.toNat = 0 by omega]; rfl
  rw [sh_ref_bytesOf, T_ref_bytesOf]
  rw [Tr.run_bind (show sh_ref_bytesOf_l1 x k ⟨#[]⟩ = some (txt (be x k)) from key), Tr.run_leaf]

theorem encS_cons (q : Power) (l : List Power) : encS (q :: l) = be q.V 1 ++ be q.N 7 ++ encS l := by simp [encS]
theorem encD_cons (q : Int) (l : List Int) : encD (q :: l) = be q 1 ++ encD l := by simp [encD]

theorem encS_length : ∀ l : List Power, (encS l).length = 8 * l.length
  | [] => rfl
  | q :: l => by rw [encS_cons, List.length_append, List.length_append, be_length, be_length, encS_length l, List.length_cons]; omega

theorem encD_length : ∀ l : List Int, (encD l).length = l.length
  | [] => rfl
  | q :: l => by rw [encD_cons, List.length_append, be_length, encD_length l, List.length_cons]; omega

theorem getD_mem {α : Type} {l : List α} {k : Nat} (h : k < l.length) (d : α) : l.getD k d ∈ l := by
  rw [List.getD_eq_getElem?_getD, List.getElem?_eq_getElem h]; exact List.getElem_mem h

theorem pl_encS {l : List Power} {p : Packet} {b : List UInt8} (hq : ∀ q, q ∈ l → 0 ≤ q.V ∧ q.V ≤ 5 ∧ 0 ≤ q.N ∧ q.N ≤ 1125899906842624) (hl : l.length ≤ 6) (hb : b.length ≤ 1000) :
    sh_codec_Encode_l1 l l.length 0 p b = some (p, b ++ encS l) := by
  have := iter_fun (F := fun s : (List Power) × Int × Int × Packet × (List UInt8) => (T_codec_Encode_l1 s.1 s.2.1 s.2.2.1 s.2.2.2.1 s.2.2.2.2).run)
    (fun s => s.1 = l ∧ s.2.1 = l.length ∧ 0 ≤ s.2.2.1 ∧ s.2.2.1 ≤ l.length ∧ s.2.2.2.1 = p ∧ (s.2.2.2.2.length : Int) ≤ 1000 + 8 * s.2.2.1) (fun s => l.length - s.2.2.1.toNat) (fun s => (p, s.2.2.2.2 ++ encS (l.drop s.2.2.1.toNat))) ?_ (l, (l.length : Int), 0, p, b) ⟨rfl, rfl, by simp, by simp, rfl, by simp only []; omega⟩
  · rw [sh_codec_Encode_l1, this]; rfl
  · rintro ⟨x0, x1, i, p', c⟩ ⟨h1, h2, h3, h4, h5, h6⟩
    simp only at h1 h2 h3 h4 h5 h6
    rw [h1, h2, h5]
    simp only [T_codec_Encode_l1]
    by_cases hc : i < l.length
    · have hs := drop_step (l := l) (k := i.toNat) (by omega) default
      obtain ⟨q1, q2, q3, q4⟩ := hq _ (getD_mem (l := l) (k := i.toNat) (by omega) default)
      rw [hs]
      generalize l.getD i.toNat default = q at *
      have hw : IntKind.i64.wrap (i + 1) = i + 1 := i64_in (by omega) (by omega)
      have e1 := pl_put (x := q.V) (k := 1) (b := c) q1 (by omega) (by omega) (by omega)
      have e2 := pl_put (x := q.N) (k := 7) (b := c ++ be q.V 1) q3 (by omega) (by omega) (by rw [List.length_append, be_length]; omega)
      refine .inl ⟨(l, (l.length : Int), i + 1, p, c ++ be q.V 1 ++ be q.N 7), ?_, ⟨rfl, rfl, by simp only []; omega, by simp only []; omega, rfl, by simp only [List.length_append, be_length]; omega⟩, by simp only []; omega, ?_⟩
      · rw [Tr.run_true (by simpa using hc), Tr.run_guard ⟨h3, hc⟩]
        rw [show sh_codec_put q.V 1 c = some (c ++ be q.V 1) from e1, Tr.run_guard Option.isSome_some]
        simp only [Option.getD_some]
        rw [show sh_codec_put q.N 7 (c ++ be q.V 1) = some (c ++ be q.V 1 ++ be q.N 7) from e2, Tr.run_guard Option.isSome_some, Tr.run_leaf, hw]
        rfl
      · simp only []
        rw [show (i + 1).toNat = i.toNat + 1 by omega, encS_cons]
        simp
    · refine .inr ?_
      rw [Tr.run_false (by simpa using hc), Tr.run_leaf]
      try simp only []
      rw [List.drop_eq_nil_of_le (by omega)]
      simp [encS]

theorem pl_encD {l : List Int} {b : List UInt8} (hq : ∀ q, q ∈ l → 0 ≤ q ∧ q ≤ 5) (hl : l.length ≤ 6) (hb : b.length ≤ 2000) :
    sh_codec_Encode_l2 l l.length 0 b = some (b ++ encD l) := by
  have := iter_fun (F := fun s : (List Int) × Int × Int × (List UInt8) => (T_codec_Encode_l2 s.1 s.2.1 s.2.2.1 s.2.2.2).run)
    (fun s => s.1 = l ∧ s.2.1 = l.length ∧ 0 ≤ s.2.2.1 ∧ s.2.2.1 ≤ l.length ∧ (s.2.2.2.length : Int) ≤ 2000 + s.2.2.1) (fun s => l.length - s.2.2.1.toNat) (fun s => s.2.2.2 ++ encD (l.drop s.2.2.1.toNat)) ?_ (l, (l.length : Int), 0, b) ⟨rfl, rfl, by simp, by simp, by simp only []; omega⟩
  · rw [sh_codec_Encode_l2, this]; rfl
  · rintro ⟨x0, x1, i, c⟩ ⟨h1, h2, h3, h4, h6⟩
    simp only at h1 h2 h3 h4 h6
    rw [h1, h2]
    simp only [T_codec_Encode_l2]
    by_cases hc : i < l.length
    · have hs := drop_step (l := l) (k := i.toNat) (by omega) 0
      obtain ⟨q1, q2⟩ := hq _ (getD_mem (l := l) (k := i.toNat) (by omega) 0)
      rw [hs]
      generalize l.getD i.toNat 0 = q at *
      have hw : IntKind.i64.wrap (i + 1) = i + 1 := i64_in (by omega) (by omega)
      have e1 := pl_put (x := q) (k := 1) (b := c) q1 (by omega) (by omega) (by omega)
      refine .inl ⟨(l, (l.length : Int), i + 1, c ++ be q 1), ?_, ⟨rfl, rfl, by simp only []; omega, by simp only []; omega, by simp only [List.length_append, be_length]; omega⟩, by simp only []; omega, ?_⟩
      · rw [Tr.run_true (by simpa using hc), Tr.run_guard ⟨h3, hc⟩, Tr.run_bind (show sh_codec_put q 1 c = some (c ++ be q 1) from e1), Tr.run_leaf, hw]
      · simp only []
        rw [show (i + 1).toNat = i.toNat + 1 by omega, encD_cons]
        simp
    · refine .inr ?_
      rw [Tr.run_false (by simpa using hc), Tr.run_leaf]
      try simp only []
      rw [List.drop_eq_nil_of_le (by omega)]
      simp [encD]

/-- What a good packet's numbers are. -/
theorem good_facts {p : Packet} (h : goodP p = 0) : 1 ≤ p.Kind ∧ p.Kind ≤ 4 ∧ 1 ≤ p.Id ∧ p.Id ≤ 1099511627776 ∧ 0 ≤ p.V ∧ p.V ≤ 5 ∧ 0 ≤ p.N ∧ p.N ≤ 1125899906842624 ∧ powsOk 0 (-1) p.Set = true ∧ doneOk (-1) p.Done = true ∧
    (p.Kind ≤ 2 → p.V = 0 ∧ p.N = 0) ∧ (p.Kind ≠ 1 → p.Set = [] ∧ p.Done = []) := by
  unfold goodP at h
  by_cases c1 : p.Kind < 1 ∨ 4 < p.Kind
  · rw [if_pos c1] at h; cases h
  rw [if_neg c1] at h
  by_cases c2 : (p.Id < 1 ∨ 1099511627776 < p.Id) ∨ (3 ≤ p.Kind ∧ (p.V < 0 ∨ 5 < p.V ∨ p.N < 1 ∨ 1125899906842624 < p.N))
  · rw [if_pos c2] at h; cases h
  rw [if_neg c2] at h
  by_cases c4 : (p.Kind ≤ 2 ∧ (p.V ≠ 0 ∨ p.N ≠ 0)) ∨ (p.Kind ≠ 1 ∧ (0 < p.Set.length ∨ 0 < p.Done.length))
  · rw [if_pos c4] at h; cases h
  rw [if_neg c4] at h
  by_cases c5 : powsOk 0 (-1) p.Set = false
  · rw [if_pos c5] at h; cases h
  rw [if_neg c5] at h
  by_cases c6 : doneOk (-1) p.Done = false
  · rw [if_pos c6] at h; cases h
  refine ⟨by omega, by omega, by omega, by omega, by omega, by omega, by omega, by omega, by simpa using c5, by simpa using c6, fun _ => by omega, fun hk => ?_⟩
  exact ⟨List.length_eq_zero_iff.1 (by omega), List.length_eq_zero_iff.1 (by omega)⟩

def encodeP (p : Packet) : ByteArray × Int := if goodP p = 0 then (txt (encP p), 0) else (txt [], goodP p)

theorem pl_Encode {p : Packet} (h1 : p.Set.length * 16 ≤ 140737488351232) (h2 : p.Done.length * 8 ≤ 140737488351232) : sh_codec_Encode p = some (encodeP p) := by
  rw [sh_codec_Encode, T_codec_Encode, Tr.run_bind (pl_goodP h1 h2)]
  unfold encodeP
  by_cases hg : goodP p = 0
  · obtain ⟨g1, g2, g3, g4, g5, g6, g7, g8, g9, g10, _, _⟩ := good_facts hg
    have l1 := powsOk_len g9 (by omega)
    have l2 := doneOk_len g10 (by omega)
    have hk : UInt8.ofNat (IntKind.u8.wrap p.Kind).toNat = byt p.Kind 0 := by
      rw [u8_wrap]
      unfold byt
      apply UInt8.toNat_inj.1
      rw [UInt8.toNat_ofNat', UInt8.toNat_ofNat', Nat.pow_zero, Nat.div_one]
      omega
    have e1 : sh_codec_put p.Id 6 [byt p.Kind 0] = some ([byt p.Kind 0] ++ be p.Id 6) := pl_put (k := 6) (by omega) (by omega) (by omega) (by rw [List.length_singleton]; omega)
    have e2 : sh_codec_put p.V 1 ([byt p.Kind 0] ++ be p.Id 6) = some ([byt p.Kind 0] ++ be p.Id 6 ++ be p.V 1) := pl_put (k := 1) (by omega) (by omega) (by omega) (by simp only [List.length_append, be_length, List.length_singleton]; omega)
    have e3 : sh_codec_put p.N 7 ([byt p.Kind 0] ++ be p.Id 6 ++ be p.V 1) = some ([byt p.Kind 0] ++ be p.Id 6 ++ be p.V 1 ++ be p.N 7) := pl_put (k := 7) (by omega) (by omega) (by omega) (by simp only [List.length_append, be_length, List.length_singleton]; omega)
    have e4 : sh_codec_put p.Set.length 1 ([byt p.Kind 0] ++ be p.Id 6 ++ be p.V 1 ++ be p.N 7) = some ([byt p.Kind 0] ++ be p.Id 6 ++ be p.V 1 ++ be p.N 7 ++ be p.Set.length 1) := pl_put (k := 1) (by omega) (by omega) (by omega) (by simp only [List.length_append, be_length, List.length_singleton]; omega)
    have e5 := pl_encS (p := p) (b := [byt p.Kind 0] ++ be p.Id 6 ++ be p.V 1 ++ be p.N 7 ++ be p.Set.length 1) (powsOk_mem (by omega) g9 (by omega)) (by omega) (by simp only [List.length_append, be_length, List.length_singleton]; omega)
    rw [Tr.run_false (by simp [hg]), if_pos hg, Tr.run_guard (by rw [u8_wrap]; omega), hk, e1, Tr.run_guard Option.isSome_some]
    simp only [Option.getD_some]
    rw [e2, Tr.run_guard Option.isSome_some]
    simp only [Option.getD_some]
    rw [e3, Tr.run_guard Option.isSome_some]
    simp only [Option.getD_some]
    rw [e4, Tr.run_guard Option.isSome_some]
    simp only [Option.getD_some]
    rw [Tr.run_bind e5]
    have hs := encS_length p.Set
    have e6 : sh_codec_put p.Done.length 1 ([byt p.Kind 0] ++ be p.Id 6 ++ be p.V 1 ++ be p.N 7 ++ be p.Set.length 1 ++ encS p.Set) = some ([byt p.Kind 0] ++ be p.Id 6 ++ be p.V 1 ++ be p.N 7 ++ be p.Set.length 1 ++ encS p.Set ++ be p.Done.length 1) := pl_put (k := 1) (by omega) (by omega) (by omega) (by simp only [List.length_append, be_length, List.length_singleton]; omega)
    have e7 := pl_encD (b := [byt p.Kind 0] ++ be p.Id 6 ++ be p.V 1 ++ be p.N 7 ++ be p.Set.length 1 ++ encS p.Set ++ be p.Done.length 1) (doneOk_mem g10 (by omega)) (by omega) (by simp only [List.length_append, be_length, List.length_singleton]; omega)
    rw [Tr.run_bind (show sh_codec_put (((p, [byt p.Kind 0] ++ be p.Id 6 ++ be p.V 1 ++ be p.N 7 ++ be p.Set.length 1 ++ encS p.Set) : Packet × List UInt8).1.Done.length : Nat) 1 _ = _ from e6), Tr.run_bind e7, Tr.run_leaf]
    rfl
  · rw [Tr.run_true (by simpa using hg), Tr.run_leaf, if_neg hg]
    rfl

theorem be_one {x : Int} (h0 : 0 ≤ x) (h1 : x < 256) : be x 1 = [byt x 0] := rfl

theorem pl_refencS {l : List Power} {p : Packet} {b : List UInt8} (hq : ∀ q, q ∈ l → 0 ≤ q.V ∧ q.V ≤ 5 ∧ 0 ≤ q.N ∧ q.N ≤ 1125899906842624) (hl : l.length ≤ 6) (hb : b.length ≤ 1000) :
    sh_ref_EncodePacket_l1 (txt b) l l.length 0 p = some (txt (b ++ encS l), p) := by
  have := iter_uptof (F := fun s : ByteArray × (List Power) × Int × Int × Packet => (T_ref_EncodePacket_l1 s.1 s.2.1 s.2.2.1 s.2.2.2.1 s.2.2.2.2).run) l.length
    (fun i b => (txt b, l, (l.length : Int), (i : Int), p)) (fun i b => b.length ≤ 1000 + 8 * i) (fun i b => (txt (b ++ encS (l.drop i)), p)) ?_ ?_ 0 b (by omega) (by simpa using hb)
  · rw [sh_ref_EncodePacket_l1]; exact this
  · intro b hb
    simp only [T_ref_EncodePacket_l1]
    rw [Tr.run_false (by simp), Tr.run_leaf, List.drop_length]
    simp [encS]
  · intro i b hi hb
    have hs := drop_step (l := l) (k := i) hi default
    obtain ⟨q1, q2, q3, q4⟩ := hq _ (getD_mem (l := l) (k := i) hi default)
    simp only [T_ref_EncodePacket_l1, Int.toNat_natCast]
    rw [hs]
    generalize l.getD i default = q at *
    have e1 : sh_ref_bytesOf q.V 1 = some (txt (be q.V 1)) := pl_bytesOf (k := 1) q1 (by omega) (by omega)
    have e2 : sh_ref_bytesOf q.N 7 = some (txt (be q.N 7)) := pl_bytesOf (k := 7) q3 (by omega) (by omega)
    refine .inl ⟨b ++ (be q.V 1 ++ be q.N 7), ?_, by simp only [List.length_append, be_length]; omega, ?_⟩
    · simp only [e1, e2, Option.isSome_some, Option.getD_some, txt_append, txt_size]
      rw [Tr.run_true (by simpa using hi), Tr.run_guard ⟨by omega, by rw [sl_len_powers]; omega⟩, Tr.run_guard (by trivial), Tr.run_guard (by trivial), Tr.run_guard (by simp only [be_length]; omega),
        Tr.run_guard (by simp only [be_length, List.length_append]; omega), Tr.run_leaf, i64_nat (by omega)]
    · rw [encS_cons]; simp

theorem pl_refencD {l : List Int} {b : List UInt8} (hq : ∀ q, q ∈ l → 0 ≤ q ∧ q ≤ 5) (hl : l.length ≤ 6) (hb : b.length ≤ 2000) :
    sh_ref_EncodePacket_l2 (txt b) l l.length 0 = some (txt (b ++ encD l)) := by
  have := iter_uptof (F := fun s : ByteArray × (List Int) × Int × Int => (T_ref_EncodePacket_l2 s.1 s.2.1 s.2.2.1 s.2.2.2).run) l.length
    (fun i b => (txt b, l, (l.length : Int), (i : Int))) (fun i b => b.length ≤ 2000 + i) (fun i b => txt (b ++ encD (l.drop i))) ?_ ?_ 0 b (by omega) (by simpa using hb)
  · rw [sh_ref_EncodePacket_l2]; exact this
  · intro b hb
    simp only [T_ref_EncodePacket_l2]
    rw [Tr.run_false (by simp), Tr.run_leaf, List.drop_length]
    simp [encD]
  · intro i b hi hb
    have hs := drop_step (l := l) (k := i) hi 0
    obtain ⟨q1, q2⟩ := hq _ (getD_mem (l := l) (k := i) hi 0)
    simp only [T_ref_EncodePacket_l2, Int.toNat_natCast]
    rw [hs]
    generalize l.getD i 0 = q at *
    have e1 : sh_ref_bytesOf q 1 = some (txt (be q 1)) := pl_bytesOf (k := 1) q1 (by omega) (by omega)
    refine .inl ⟨b ++ be q 1, ?_, by simp only [List.length_append, be_length]; omega, ?_⟩
    · rw [Tr.run_true (by simpa using hi), Tr.run_guard ⟨by omega, by rw [sl_len_ints]; omega⟩, Tr.run_bind e1, txt_append, Tr.run_guard (by simp only [txt_size, be_length]; omega), Tr.run_leaf, i64_nat (by omega)]
    · rw [encD_cons]; simp

theorem pl_refEncode {p : Packet} (h1 : p.Set.length * 16 ≤ 140737488351232) (h2 : p.Done.length * 8 ≤ 140737488351232) : sh_ref_EncodePacket p = some (encodeP p) := by
  rw [sh_ref_EncodePacket, T_ref_EncodePacket, Tr.run_bind (pl_refgoodP h1 h2)]
  unfold encodeP
  by_cases hg : goodP p = 0
  · obtain ⟨g1, g2, g3, g4, g5, g6, g7, g8, g9, g10, _, _⟩ := good_facts hg
    have l1 := powsOk_len g9 (by omega)
    have l2 := doneOk_len g10 (by omega)
    have e1 : sh_ref_bytesOf p.Kind 1 = some (txt (be p.Kind 1)) := pl_bytesOf (k := 1) (by omega) (by omega) (by omega)
    have e2 : sh_ref_bytesOf p.Id 6 = some (txt (be p.Id 6)) := pl_bytesOf (k := 6) (by omega) (by omega) (by omega)
    have e3 : sh_ref_bytesOf p.V 1 = some (txt (be p.V 1)) := pl_bytesOf (k := 1) (by omega) (by omega) (by omega)
    have e4 : sh_ref_bytesOf p.N 7 = some (txt (be p.N 7)) := pl_bytesOf (k := 7) (by omega) (by omega) (by omega)
    have e5 : sh_ref_bytesOf p.Set.length 1 = some (txt (be p.Set.length 1)) := pl_bytesOf (k := 1) (by omega) (by omega) (by omega)
    have e6 : sh_ref_bytesOf p.Done.length 1 = some (txt (be p.Done.length 1)) := pl_bytesOf (k := 1) (by omega) (by omega) (by omega)
    have e7 := pl_refencS (p := p) (b := be p.Kind 1 ++ be p.Id 6 ++ be p.V 1 ++ be p.N 7 ++ be p.Set.length 1) (powsOk_mem (by omega) g9 (by omega)) (by omega) (by simp only [List.length_append, be_length]; omega)
    have e8 := pl_refencD (b := be p.Kind 1 ++ be p.Id 6 ++ be p.V 1 ++ be p.N 7 ++ be p.Set.length 1 ++ encS p.Set ++ be p.Done.length 1) (doneOk_mem g10 (by omega)) (by omega) (by simp only [List.length_append, be_length, encS_length]; omega)
    rw [Tr.run_false (by simp [hg]), if_pos hg]
    simp only [e1, e2, e3, e4, e5, Option.isSome_some, Option.getD_some, txt_append, txt_size, List.length_append, be_length]
    iterate 9 rw [Tr.run_guard (by first | trivial | omega)]
    rw [Tr.run_bind e7]
    simp only []
    rw [Tr.run_bind e6, Tr.run_guard (by simp only [txt_size, List.length_append, be_length, encS_length]; omega), txt_append, Tr.run_bind e8, Tr.run_leaf]
    rfl
  · rw [Tr.run_true (by simpa using hg), Tr.run_leaf, if_neg hg]
    rfl

theorem pl_copyP {p : Packet} (h1 : p.Set.length * 16 ≤ 140737488351232) (h2 : p.Done.length * 8 ≤ 140737488351232) : sh_ref_CopyPacket p = some p := by
  rw [sh_ref_CopyPacket, T_ref_CopyPacket, Tr.run_guard (by rw [sl_len_powers]; omega), Tr.run_guard (by rw [sl_len_ints]; omega), Tr.run_leaf]

theorem enc_two : encodeP ⟨2, 1, 0, 0, [], []⟩ = (txt (encP ⟨2, 1, 0, 0, [], []⟩), 0) := if_pos rfl

end Go.Proofs.Ythhdljniheaeoaa.Ab
