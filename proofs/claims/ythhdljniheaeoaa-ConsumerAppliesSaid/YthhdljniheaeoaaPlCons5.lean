/-
  Consumers, with no program in sight: whoever was told to be down is told once; changes ripen.
-/
import Derived.Test.YthhdljniheaeoaaFConsLaw
import Derived.Test.YthhdljniheaeoaaPlCons4
namespace Go.Proofs.Ythhdljniheaeoaa.Ab
open Go Go.RowKit
set_option linter.unusedVariables false
set_option linter.unusedSimpArgs false

theorem a6_get_set {α : Type} (f : A6 α) {v : Int} (h : 0 ≤ v ∧ v < 6) (b : α) : (f.set v b).get v = b := by
  obtain rfl | rfl | rfl | rfl | rfl | rfl : v = 0 ∨ v = 1 ∨ v = 2 ∨ v = 3 ∨ v = 4 ∨ v = 5 := by omega
  all_goals rfl

theorem sayL_ok {l : Line} {s : ByteArray} {u : Int} (h : (sayL l s u).2 = 0) : GoodL l ∧ 0 ≤ u ∧ l.Closed = false ∧ l.Said.length < 400 ∧ sayL l s u = ({ l with Said := l.Said ++ [s], Due := l.Due ++ [u] }, 0) := by
  unfold sayL at h ⊢
  by_cases h1 : ¬ GoodL l ∨ u < 0
  · rw [if_pos h1] at h; cases h
  · rw [if_neg h1] at h ⊢
    simp only [not_or, Classical.not_not] at h1
    by_cases h2 : l.Closed = true
    · rw [if_pos h2] at h; cases h
    · rw [if_neg h2] at h ⊢
      by_cases h3 : 400 ≤ l.Said.length
      · rw [if_pos h3] at h; cases h
      · rw [if_neg h3]
        exact ⟨h1.1, by omega, by simpa using h2, by omega, rfl⟩

theorem sayL_yes {l : Line} {s : ByteArray} {u : Int} (h1 : GoodL l) (h2 : 0 ≤ u) (h3 : l.Closed = false) (h4 : l.Said.length < 400) : sayL l s u = ({ l with Said := l.Said ++ [s], Due := l.Due ++ [u] }, 0) := by
  unfold sayL
  rw [if_neg (by simp only [not_or, Classical.not_not]; exact ⟨h1, by omega⟩), if_neg (by rw [h3]; simp), if_neg (by omega)]

theorem goodL_more {l : Line} {s : ByteArray} {u : Int} (h1 : GoodL l) (h2 : 0 ≤ u) (h4 : l.Said.length < 400) : GoodL { l with Said := l.Said ++ [s], Due := l.Due ++ [u] } := by
  obtain ⟨g1, g2, g3, g4, g5⟩ := h1
  refine ⟨by simp [g1], by simp only [List.length_append, List.length_singleton]; omega, g3, by simp only [List.length_append, List.length_singleton]; omega, ?_⟩
  simp only [List.any_append, g5, Bool.false_or, List.any_cons, List.any_nil, Bool.or_false, decide_eq_false_iff_not]
  omega

theorem sayC_ok {p : Packet} {now : Int} {c : Consumer} (h : (sayC p now c).1 = 0) : goodP p = 0 ∧ (sayL c.Out (txt (encP p)) (IntKind.i64.wrap (now + 40))).2 = 0 ∧
    sayC p now c = (0, { c with Out := { c.Out with Said := c.Out.Said ++ [txt (encP p)], Due := c.Out.Due ++ [IntKind.i64.wrap (now + 40)] } }) := by
  have hg : goodP p = 0 := by
    refine Classical.byContradiction fun hn => ?_
    unfold sayC at h
    rw [encodeP_bad hn, if_pos hn] at h
    exact hn h
  unfold sayC at h ⊢
  rw [encodeP_good hg, if_neg (by simp)] at h ⊢
  simp only at h ⊢
  by_cases hs : (sayL c.Out (txt (encP p)) (IntKind.i64.wrap (now + 40))).2 = 0
  · rw [if_neg (by simpa using hs), (sayL_ok hs).2.2.2.2]
    exact ⟨hg, rfl, rfl⟩
  · rw [if_pos hs] at h
    exact absurd h hs

theorem sayC_yes {p : Packet} {now : Int} {c : Consumer} (hg : goodP p = 0) (h1 : GoodL c.Out) (h2 : 0 ≤ IntKind.i64.wrap (now + 40)) (h3 : c.Out.Closed = false) (h4 : c.Out.Said.length < 400) :
    sayC p now c = (0, { c with Out := { c.Out with Said := c.Out.Said ++ [txt (encP p)], Due := c.Out.Due ++ [IntKind.i64.wrap (now + 40)] } }) := by
  unfold sayC
  rw [encodeP_good hg, if_neg (by simp)]
  simp only
  rw [sayL_yes h1 h2 h3 h4, if_neg (by simp)]

theorem goodP_one {id : Int} {s : List Power} {d : List Int} (h1 : 1 ≤ id) (h2 : id ≤ 1099511627776) (h3 : powsOk 0 (-1) s = true) (h4 : doneOk (-1) d = true) : goodP ⟨1, id, 0, 0, s, d⟩ = 0 := by
  unfold goodP
  rw [if_neg (by simp), if_neg (by simp; omega), if_neg (by simp), if_neg (by simp [h3]), if_neg (by simp [h4])]

theorem goodC_of {c : Consumer} (h1 : numsC c) (h2 : GoodL c.Out) (h3 : powsOk 1 (-1) c.Set = true) (h4 : c.Ripes.all ripeOk = true) (h5 : c.Pending.all pendOk = true) : GoodC c = true := by
  unfold GoodC
  rw [decide_eq_true h1, decide_eq_true h2, h3, h4, h5]; rfl

theorem ripenL_flags {now : Int} : ∀ (rs : List Ripe) (c : Consumer), (ripenL now rs c).Flags = c.Flags
  | [], c => rfl
  | r :: rs, c => by
    unfold ripenL
    split
    · split
      · rfl
      · rw [ripenL_flags rs]
        unfold sayC
        repeat' split
        all_goals rfl
    · rfl

theorem endC_yes {now : Int} {c : Consumer} (h1 : GoodC c = true) (h2 : c.On = true) (h3 : c.Time ≤ now) (h4 : now ≤ 1099511627776) :
    endC now c = (ripenL now (c.Pending.foldl (pendC now) { c with Height := IntKind.i64.wrap (c.Height + 1), Time := now }).Ripes { c.Pending.foldl (pendC now) { c with Height := IntKind.i64.wrap (c.Height + 1), Time := now } with Pending := [] }, 0) := by
  unfold endC
  rw [if_neg (by rw [h1]; simp), if_neg (by rw [h2]; simp), if_neg (by omega)]

theorem downC_ok {c : Consumer} {v now : Int} (h : (downC c v now).2 = 0) : GoodC c = true ∧ 0 ≤ now ∧ now ≤ 1099511627776 ∧ c.On = true ∧ 0 ≤ v ∧ v ≤ 5 ∧ findP c.Set v ≠ 0 ∧ (sayC ⟨3, c.Id, v, findP c.Set v, [], []⟩ now c).1 = 0 ∧
    downC c v now = ({ (sayC ⟨3, c.Id, v, findP c.Set v, [], []⟩ now c).2 with Flags := (sayC ⟨3, c.Id, v, findP c.Set v, [], []⟩ now c).2.Flags.set v true }, 0) := by
  unfold downC at h ⊢
  by_cases h1 : GoodC c = false ∨ now < 0 ∨ 1099511627776 < now
  · rw [if_pos h1] at h; cases h
  · rw [if_neg h1] at h ⊢
    by_cases h2 : c.On = false ∨ v < 0 ∨ 5 < v ∨ findP c.Set v = 0
    · rw [if_pos h2] at h; cases h
    · rw [if_neg h2] at h ⊢
      by_cases h3 : c.Flags.get v = true
      · rw [if_pos h3] at h; cases h
      · rw [if_neg h3] at h ⊢
        by_cases h4 : (sayC ⟨3, c.Id, v, findP c.Set v, [], []⟩ now c).1 = 0
        · rw [if_neg (by simpa using h4)]
          simp only [not_or] at h1 h2
          exact ⟨by simpa using h1.1, by omega, by omega, by simpa using h2.1, by omega, by omega, h2.2.2.2, h4, rfl⟩
        · rw [if_pos h4] at h
          exact absurd h h4

theorem pl_ConsumerFlags {c : Consumer} {v now : Int} (h : FitC 4294967296 c) : sh_keep_ConsumerFlags c v now = some true := by
  have hf := h.mono (S := 140737488351232) (by omega)
  rw [sh_keep_ConsumerFlags, T_keep_ConsumerFlags, Tr.run_bind (pl_Down hf)]
  simp only [pl_keepconsumes, Option.isSome_some, Option.getD_some]
  rw [Tr.run_guard (by simp)]
  by_cases hd : (downC c v now).2 = 0
  · obtain ⟨g, n0, n1, on, v0, v1, fp, hs, he⟩ := downC_ok hd
    obtain ⟨gp, hl, hsay⟩ := sayC_ok hs
    obtain ⟨l1, l2, l3, l4, l5⟩ := sayL_ok hl
    obtain ⟨p1, p2, p3, p4, p5⟩ := goodC_parts g
    rw [hsay] at he
    simp only at he
    -- the chain behind it
    obtain ⟨a, ha⟩ : ∃ a : Consumer, a = { c with Flags := c.Flags.set v true, Out := { c.Out with Said := c.Out.Said ++ [txt (encP ⟨3, c.Id, v, findP c.Set v, [], []⟩)], Due := c.Out.Due ++ [IntKind.i64.wrap (now + 40)] } } := ⟨_, rfl⟩
    have he : downC c v now = (a, 0) := by rw [he, ha]
    have ga : GoodC a = true := by
      rw [ha]
      exact goodC_of p1 (goodL_more l1 l2 l4) p3 p4 p5
    have fa : FitC 4294967296 a := by
      have e4 := h.said; have e5 := h.due
      have e6 := l1.1
      rw [ha]
      exact ⟨h.set, h.pend, h.ripes, (by show (c.Out.Said ++ [_]).length * 16 ≤ _; rw [List.length_append, List.length_singleton]; omega), (by show (c.Out.Due ++ [_]).length * _ ≤ _; rw [List.length_append, List.length_singleton]; omega), h.ps⟩
    have fa' := fa.mono (S := 140737488351232) (by omega)
    have aOn : a.On = true := by rw [ha]; exact on
    have aSet : a.Set = c.Set := by rw [ha]
    have aFl : a.Flags.get v = true := by rw [ha]; exact a6_get_set _ ⟨v0, by omega⟩ true
    have aTime : a.Time = c.Time := by rw [ha]
    have aSaid : a.Out.Said = c.Out.Said ++ [txt (encP ⟨3, c.Id, v, findP c.Set v, [], []⟩)] := by rw [ha]
    have hd2 : downC a v now = (a, 5) := by
      unfold downC
      rw [if_neg (by rw [ga]; simp; omega), if_neg (by rw [aOn, aSet]; simp; exact ⟨by omega, by omega, fp⟩), if_pos aFl]
    rw [he, Tr.run_false (by rfl), Tr.run_bind (pl_Down fa')]
    simp only []
    have hlen : a.Out.Said.length = c.Out.Said.length + 1 := by rw [aSaid]; simp
    rw [Tr.run_guard (by intro _; exact ⟨by omega, trivial⟩), hd2, Tr.run_false (by
      rw [aFl, hlen, i64_in (by omega) (by omega)]
      simp; omega)]
    rw [hlen, i64_in (x := ((c.Out.Said.length + 1 : Nat) : Int) - 1) (by omega) (by omega), show (((c.Out.Said.length + 1 : Nat) : Int) - 1).toNat = c.Out.Said.length by omega]
    have hget : a.Out.Said.getD c.Out.Said.length .empty = txt (encP ⟨3, c.Id, v, findP c.Set v, [], []⟩) := by
      rw [aSaid, List.getD_eq_getElem?_getD, List.getElem?_append_right (Nat.le_refl _), Nat.sub_self]; rfl
    have hel := encP_length ⟨3, c.Id, v, findP c.Set v, [], []⟩
    simp only [List.length_nil, Nat.mul_zero, Nat.add_zero] at hel
    rw [Tr.run_guard (by show _ ∧ _ < ((a.Out.Said.length : Nat) : Int); rw [hlen]; omega), hget, Tr.run_bind (pl_Decode (by omega)), dec_enc gp, Tr.run_false (by simp)]
    -- the provider's word
    have gq : goodP ⟨1, 1, 0, 0, [], [v]⟩ = 0 := goodP_one (by omega) (by omega) rfl (by simp [doneOk]; omega)
    have hql := encP_length ⟨1, 1, 0, 0, [], [v]⟩
    simp only [List.length_nil, List.length_singleton, Nat.mul_zero, Nat.add_zero] at hql
    rw [Tr.run_bind (pl_Encode (by simp) (by simp)), encodeP_good gq]
    have hh : hearC a (encP ⟨1, 1, 0, 0, [], [v]⟩) = ({ a with Pending := a.Pending ++ [⟨1, 1, 0, 0, [], [v]⟩] }, 0) := by
      unfold hearC
      rw [if_neg (by rw [ga]; simp), if_neg (by rw [aOn]; simp), dec_enc gq, if_neg (by simp), if_neg (by simp)]
    rw [Tr.run_bind (pl_Hear fa' (by rw [txt_size, hql]; omega)), txt_toList, hh, Tr.run_false (by rfl)]
    simp only []
    obtain ⟨b, hb⟩ : ∃ b : Consumer, b = { a with Pending := a.Pending ++ [⟨1, 1, 0, 0, [], [v]⟩] } := ⟨_, rfl⟩
    rw [← hb]
    have gb : GoodC b = true := by
      obtain ⟨q1, q2, q3, q4, q5⟩ := goodC_parts ga
      rw [hb]
      refine goodC_of q1 q2 q3 q4 ?_
      simp only [List.all_append, q5, Bool.true_and, List.all_cons, List.all_nil, Bool.and_true]
      unfold pendOk
      rw [gq]; rfl
    have fb : FitC 140737488351232 b := by
      have e2 := fa.pend
      rw [hb]
      refine ⟨fa'.set, by simp only [List.length_append, List.length_singleton]; omega, fa'.ripes, fa'.said, fa'.due, fun p hp => ?_⟩
      rcases List.mem_append.1 hp with hp | hp
      · exact fa'.ps p hp
      · obtain rfl := List.mem_singleton.1 hp
        exact ⟨by simp, by simp⟩
    have bOn : b.On = true := by rw [hb]; exact aOn
    have bTime : b.Time = c.Time := by rw [hb]; exact aTime
    have hct : c.Time ≤ 1099511627776 := p1.2.2.2.2.1
    rw [Tr.run_bind (pl_End fb (by rw [hb]; have e2 := fa.pend; have e3 := fa.ripes; simp only [List.length_append, List.length_singleton]; omega))]
    rw [endC_yes gb bOn (by rw [bTime]; split <;> omega) (by split <;> omega)]
    rw [Tr.run_guard (by intro _; exact ⟨by omega, trivial⟩), Tr.run_leaf]
    simp only [ripenL_flags]
    have hfl : ∀ t : Int, ((b.Pending.foldl (pendC t) { b with Height := IntKind.i64.wrap (b.Height + 1), Time := t }).Flags.get v) = false := by
      intro t
      rw [hb]
      simp only [List.foldl_append, List.foldl_cons, List.foldl_nil]
      rw [pendC_eq]
      exact a6_get_set _ ⟨v0, by omega⟩ false
    rw [hfl]
    rfl
  · rw [Tr.run_true (by simpa using hd), Tr.run_bind rfl, Tr.run_leaf]

end Go.Proofs.Ythhdljniheaeoaa.Ab
