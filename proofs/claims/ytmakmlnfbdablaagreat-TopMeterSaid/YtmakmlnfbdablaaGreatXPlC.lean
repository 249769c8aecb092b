/-
  The plain lemmas.
-/
import Derived.Test.YtmakmlnfbdablaaGreatXFBank
import Derived.Test.YtmakmlnfbdablaaGreatXFStakeB
import Derived.Test.YtmakmlnfbdablaaGreatXFTop
import Derived.Test.YtmakmlnfbdablaaGreatXPlB
namespace Go.Proofs.YtmakmlnfbdablaaGreat.Ab
open Go Go.RowKit
set_option linter.unusedVariables false
set_option linter.unusedSimpArgs false
def zxc (s : Stake) (v : Int) : Int := if (IntKind.i64.wrap (Int.tdiv (s.Validators.Tokens.get v) 100)) > 1 then (IntKind.i64.wrap (Int.tdiv (s.Validators.Tokens.get v) 100)) else 1
theorem z3o {s : Stake} (hg : GoodS s) {v : Int} (hv : 0 ≤ v ∧ v < 6) : 1 ≤ zxc s v ∧ zxc s v ≤ 1125899906842624 := by
  obtain ⟨a, b⟩ := (hg.2.2.1 v.toNat (by omega)).1.1
  rw [Int.toNat_of_nonneg hv.1] at a b
  have e : Int.tdiv (s.Validators.Tokens.get v) 100 = s.Validators.Tokens.get v / 100 := Int.tdiv_eq_ediv_of_nonneg a
  unfold zxc
  rw [e, zj (by omega) (by omega)]
  split <;> omega
def zjz (s t : Stake) (v : Int) : Int := if t.Validators.Jailed.get v = true ∧ t.Validators.Dead.get v = false ∧ s.Validators.Jailed.get v = false then zxc s v else 0
theorem zwi {s : Stake} (hg : GoodS s) (t : Stake) {v : Int} (hv : 0 ≤ v ∧ v < 6) : 0 ≤ zjz s t v ∧ zjz s t v ≤ 1125899906842624 := by
  have := z3o hg hv
  unfold zjz; split <;> omega
def sumJ (s t : Stake) : Int := zjz s t 0 + zjz s t 1 + zjz s t 2 + zjz s t 3 + zjz s t 4 + zjz s t 5
theorem zafy {s t t' : Stake} {v : Int} (hv : 0 ≤ v ∧ v < 6) (h : ∀ u, 0 ≤ u ∧ u < 6 → u ≠ v → zjz s t' u = zjz s t u) : sumJ s t' = sumJ s t - zjz s t v + zjz s t' v := by
  have h0 := h 0 (by omega); have h1 := h 1 (by omega); have h2 := h 2 (by omega); have h3 := h 3 (by omega); have h4 := h 4 (by omega); have h5 := h 5 (by omega)
  unfold sumJ
  obtain rfl | rfl | rfl | rfl | rfl | rfl : v = 0 ∨ v = 1 ∨ v = 2 ∨ v = 3 ∨ v = 4 ∨ v = 5 := by omega
  · rw [h1 (by omega), h2 (by omega), h3 (by omega), h4 (by omega), h5 (by omega)]; omega
  · rw [h0 (by omega), h2 (by omega), h3 (by omega), h4 (by omega), h5 (by omega)]; omega
  · rw [h0 (by omega), h1 (by omega), h3 (by omega), h4 (by omega), h5 (by omega)]; omega
  · rw [h0 (by omega), h1 (by omega), h2 (by omega), h4 (by omega), h5 (by omega)]; omega
  · rw [h0 (by omega), h1 (by omega), h2 (by omega), h3 (by omega), h5 (by omega)]; omega
  · rw [h0 (by omega), h1 (by omega), h2 (by omega), h3 (by omega), h4 (by omega)]; omega
theorem zty {s : Stake} (hg : GoodS s) (t : Stake) : 0 ≤ sumJ s t := by
  have h0 := (zwi hg t (v := 0) (by omega)).1; have h1 := (zwi hg t (v := 1) (by omega)).1; have h2 := (zwi hg t (v := 2) (by omega)).1
  have h3 := (zwi hg t (v := 3) (by omega)).1; have h4 := (zwi hg t (v := 4) (by omega)).1; have h5 := (zwi hg t (v := 5) (by omega)).1
  unfold sumJ; omega
theorem z1z {s t t' : Stake} {u : Int} (h1 : t'.Validators.Jailed.get u = t.Validators.Jailed.get u) (h2 : t'.Validators.Dead.get u = t.Validators.Dead.get u) : zjz s t' u = zjz s t u := by unfold zjz; rw [h1, h2]
structure MetT (s : Stake) (full sum great : Int) (t : Stake) (m : Meter) : Prop where
  keep : ∀ v : Int, 0 ≤ v ∧ v < 6 → (s.Validators.Jailed.get v = true → t.Validators.Jailed.get v = true) ∧ (t.Validators.Dead.get v = false → t.Validators.Tokens.get v = s.Validators.Tokens.get v)
  left : -1125899906842624 ≤ m.Left
  all : sum + sumJ s t + m.Left ≤ full
  most : ∃ g, (g = great ∨ ∃ v : Int, (0 ≤ v ∧ v < 6) ∧ g = zjz s t v) ∧ sum + sumJ s t - g < full
theorem MetT.same {s t t' : Stake} {full sum great : Int} {m : Meter} (h : MetT s full sum great t m) (e : t'.Validators = t.Validators) : MetT s full sum great t' m := by
  have e1 : ∀ v, zjz s t' v = zjz s t v := fun v => z1z (by rw [e]) (by rw [e])
  have e2 : sumJ s t' = sumJ s t := by unfold sumJ; simp only [e1]
  obtain ⟨a1, a2, a3, g, a4, a5⟩ := h
  refine ⟨by rw [e]; exact a1, a2, by rw [e2]; exact a3, g, ?_, by rw [e2]; exact a5⟩
  rcases a4 with a4 | ⟨v, hv, a4⟩
  · exact .inl a4
  · exact .inr ⟨v, hv, by rw [e1]; exact a4⟩
theorem zahr (s : Stake) (v h f : Int) : (zdi s v h f).1.Validators.Jailed = s.Validators.Jailed ∧ (zdi s v h f).1.Validators.Dead = s.Validators.Dead := by
  unfold zdi
  repeat' split
  all_goals exact ⟨rfl, rfl⟩
theorem zak6 {s : Stake} {v h f u : Int} (hv : 0 ≤ v ∧ v < 6) (hu : 0 ≤ u ∧ u < 6) (e : u ≠ v) : (zdi s v h f).1.Validators.Tokens.get u = s.Validators.Tokens.get u := by
  unfold zdi
  split
  · rfl
  · split
    · rfl
    · show (s.Validators.Tokens.set v _).get u = _
      rw [zoz _ _ hv hu, if_neg e]
theorem zak7 {s : Stake} (hg : GoodS s) {v h : Int} (hv : 0 ≤ v ∧ v < 6) (hd : s.Validators.Dead.get v = false) :
    (zaw (zdi s v h 50).1 v 2).1.Validators.Jailed = s.Validators.Jailed.set v true ∧ (zaw (zdi s v h 50).1 v 2).1.Validators.Dead = s.Validators.Dead.set v true ∧
    (∀ u, 0 ≤ u ∧ u < 6 → u ≠ v → (zaw (zdi s v h 50).1 v 2).1.Validators.Tokens.get u = s.Validators.Tokens.get u) := by
  have g1 := zq6 hg v h 50
  obtain ⟨x1, x2⟩ := zahr s v h 50
  unfold zaw
  rw [if_neg (by rw [zwy g1 (by omega) hv]; simp), if_neg (by omega), if_neg (by rw [x2, hd]; simp), if_neg (by omega)]
  refine ⟨?_, ?_, fun u hu e => ?_⟩
  · show ((zdi s v h 50).1.Validators.Jailed.set v _) = _
    rw [x1]; rfl
  · show ((zdi s v h 50).1.Validators.Dead.set v _) = _
    rw [x2]; rfl
  · exact zak6 hv hu e
theorem zak8 {s : Stake} (hg : GoodS s) {v : Int} (hv : 0 ≤ v ∧ v < 6) (hd : s.Validators.Jailed.get v = false) :
    (zaw s v 0).1.Validators.Jailed = s.Validators.Jailed.set v true ∧ (zaw s v 0).1.Validators.Dead = s.Validators.Dead.set v false ∧ (zaw s v 0).1.Validators.Tokens = s.Validators.Tokens := by
  unfold zaw
  rw [if_neg (by rw [zwy hg (by omega) hv]; simp), if_neg (by rw [hd]; simp), if_neg (by omega), if_neg (by omega)]
  exact ⟨rfl, rfl, rfl⟩
theorem zafz {s : Stake} {full sum great : Int} (hs : GoodS s) (hf : full ≤ 2305843009213693952) (h0 : 0 ≤ sum) {p0 p : za} (hp : DealI p0 p) {a : Asked} (hv : 0 ≤ a.P.V ∧ a.P.V < 6) (h : MetT s full sum great p.Stake p.Meter) : MetT s full sum great (z07 p a).1.Stake (z07 p a).1.Meter := by
  have hg := hp.good
  unfold z07
  split
  · exact h.same rfl
  · split
    · split
      · exact h
      · rename_i hd
        have hd : p.Stake.Validators.Dead.get a.P.V = false := Bool.eq_false_iff.2 hd
        obtain ⟨v1, v2, v3⟩ := zak7 (h := zand p a) hg hv hd
        show MetT s full sum great (zaw (zdi p.Stake a.P.V (zand p a) 50).1 a.P.V 2).1 p.Meter
        generalize (zaw (zdi p.Stake a.P.V (zand p a) 50).1 a.P.V 2).1 = t' at v1 v2 v3
        have ho : ∀ u, 0 ≤ u ∧ u < 6 → u ≠ a.P.V → zjz s t' u = zjz s p.Stake u := fun u hu e => z1z (by rw [v1, zas _ _ hv hu e]) (by rw [v2, zas _ _ hv hu e])
        have hz : zjz s t' a.P.V = 0 := by unfold zjz; rw [v2, zbv _ _ hv, if_neg (by simp)]
        have hsum := zafy hv ho
        have hn := (zwi hs p.Stake hv).1
        obtain ⟨a1, a2, a3, g, a4, a5⟩ := h
        refine ⟨fun u hu => ?_, a2, by omega, ?_⟩
        · by_cases e : u = a.P.V
          · rw [e, v1, v2, zbv _ _ hv, zbv _ _ hv]
            exact ⟨fun _ => rfl, fun k => by cases k⟩
          · rw [v1, v2, zas _ _ hv hu e, zas _ _ hv hu e, v3 u hu e]
            exact a1 u hu
        · rcases a4 with a4 | ⟨u, hu, a4⟩
          · exact ⟨g, .inl a4, by omega⟩
          · by_cases e : u = a.P.V
            · exact ⟨0, .inr ⟨a.P.V, hv, hz.symm⟩, by rw [e] at a4; omega⟩
            · exact ⟨g, .inr ⟨u, hu, by rw [ho u hu e]; exact a4⟩, by omega⟩
    · split
      · exact h
      · rename_i hj
        have hj : p.Stake.Validators.Jailed.get a.P.V = false := Bool.eq_false_iff.2 hj
        split
        · rename_i ht
          unfold z9u at ht ⊢
          by_cases hl : p.Meter.Left ≤ 0
          · rw [if_pos hl] at ht; cases ht
          rw [if_neg hl]
          obtain ⟨v1, v2, v3⟩ := zak8 hg hv hj
          show MetT s full sum great (zaw p.Stake a.P.V 0).1 ⟨IntKind.i64.wrap (p.Meter.Left - ztu p a.P.V), p.Meter.Next⟩
          generalize (zaw p.Stake a.P.V 0).1 = t' at v1 v2 v3
          have hok := (hg.2.2.1 a.P.V.toNat (by omega)).1
          rw [Int.toNat_of_nonneg hv.1] at hok
          have hd : p.Stake.Validators.Dead.get a.P.V = false := by
            rw [Bool.eq_false_iff]; intro k; exact hok.2.2.2.2 ⟨k, hj⟩
          obtain ⟨a1, a2, a3, g, a4, a5⟩ := h
          have hju : s.Validators.Jailed.get a.P.V = false := by
            rw [Bool.eq_false_iff]; intro k; rw [(a1 _ hv).1 k] at hj; cases hj
          have hu : ztu p a.P.V = zxc s a.P.V := by
            unfold ztu zxc; rw [(a1 _ hv).2 hd]
          have hul := z3o hs hv
          have hnn := zty hs p.Stake
          have ho : ∀ u, 0 ≤ u ∧ u < 6 → u ≠ a.P.V → zjz s t' u = zjz s p.Stake u := fun u hu e => z1z (by rw [v1, zas _ _ hv hu e]) (by rw [v2, zas _ _ hv hu e])
          have hz : zjz s p.Stake a.P.V = 0 := by unfold zjz; rw [hj, if_neg (by simp)]
          have hz' : zjz s t' a.P.V = zxc s a.P.V := by unfold zjz; rw [v1, v2, zbv _ _ hv, zbv _ _ hv, if_pos ⟨rfl, rfl, hju⟩]
          have hsum := zafy hv ho
          rw [hu, zj (by omega) (by omega)]
          refine ⟨fun u hu => ?_, by show _ ≤ p.Meter.Left - zxc s a.P.V; omega, by show _ + (p.Meter.Left - zxc s a.P.V) ≤ _; omega, zjz s t' a.P.V, .inr ⟨_, hv, rfl⟩, by omega⟩
          by_cases e : u = a.P.V
          · rw [e, v1, v3, zbv _ _ hv]
            exact ⟨fun _ => rfl, fun _ => (a1 _ hv).2 hd⟩
          · rw [v1, v2, v3, zas _ _ hv hu e, zas _ _ hv hu e]
            exact a1 u hu
        · exact h
theorem zab9 (p : za) (a : Asked) : (z07 p a).1.Meter.Next = p.Meter.Next := by
  unfold z07 z9u
  repeat' split
  all_goals rfl
theorem zaca {s : Stake} {full sum great : Int} (hs : GoodS s) (hf : full ≤ 2305843009213693952) (h0 : 0 ≤ sum) {p0 : za} : ∀ (l : List Asked) (i : Nat) (t : za × A2 Bool × List Asked), zabv p0 i t → (∀ a, a ∈ l → (0 ≤ a.C ∧ a.C < 2) ∧ a ∈ p0.Queue ∧ (0 ≤ a.P.V ∧ a.P.V < 6)) →
    MetT s full sum great t.1.Stake t.1.Meter → MetT s full sum great (l.foldl zwe t).1.Stake (l.foldl zwe t).1.Meter ∧ (l.foldl zwe t).1.Meter.Next = t.1.Meter.Next
  | [], _, _, _, _, h => ⟨h, rfl⟩
  | a :: l, i, t, h, ha, hm => by
    obtain ⟨a1, a2, a3⟩ := ha a (List.mem_cons_self ..)
    have key : MetT s full sum great (zwe t a).1.Stake (zwe t a).1.Meter ∧ (zwe t a).1.Meter.Next = t.1.Meter.Next := by
      unfold zwe
      repeat' split
      · exact ⟨hm, rfl⟩
      · exact ⟨zafz hs hf h0 h.1 a3 hm, zab9 _ _⟩
      · exact ⟨zafz hs hf h0 h.1 a3 hm, zab9 _ _⟩
    obtain ⟨k1, k2⟩ := zaca hs hf h0 l (i + 1) (zwe t a) (z9v h a1 a2) (fun b hb => ha b (List.mem_cons_of_mem _ hb)) key.1
    exact ⟨k1, by rw [List.foldl_cons, k2, key.2]⟩
def zya (x : Int) : Int := if x < 5 then 1 else x / 5
theorem zacb {x : Int} (h : i64 x) : 1 ≤ zya x ∧ zya x ≤ 2305843009213693952 := by
  unfold i64 at h
  unfold zya; split <;> omega
theorem zaf0 {x : Int} (hx : i64 x) : zbi x = some (zya x) := by
  rw [zbi, ze9, Tr.run_guard (by decide), Tr.run_leaf]
  unfold zya
  unfold i64 at hx
  by_cases h5 : x < 5
  · have : Int.tdiv x 5 < 1 := by
      by_cases h0 : 0 ≤ x
      · rw [Int.tdiv_eq_ediv_of_nonneg h0]; omega
      · have : Int.tdiv x 5 ≤ 0 := by
          have h1 : Int.tdiv (-x) 5 = - Int.tdiv x 5 := Int.neg_tdiv x 5
          rw [Int.tdiv_eq_ediv_of_nonneg (by omega)] at h1
          omega
        omega
    have hl : -9223372036854775808 ≤ Int.tdiv x 5 := by
      by_cases h0 : 0 ≤ x
      · rw [Int.tdiv_eq_ediv_of_nonneg h0]; omega
      · have h1 : Int.tdiv (-x) 5 = - Int.tdiv x 5 := Int.neg_tdiv x 5
        rw [Int.tdiv_eq_ediv_of_nonneg (by omega)] at h1
        omega
    rw [zj (by omega) (by omega), if_neg (by omega), if_pos h5]
  · rw [Int.tdiv_eq_ediv_of_nonneg (by omega), zj (by omega) (by omega), if_neg h5]
    split
    · rfl
    · congr 1; omega
structure MetW (w : Wld) (full sum great : Int) : Prop where
  f0 : 1 ≤ full
  f1 : full ≤ 2305843009213693952
  s0 : 0 ≤ sum
  g0 : 0 ≤ great
  g1 : great ≤ 1125899906842624
  left : -1125899906842624 ≤ w.p.Meter.Left
  all : sum + w.p.Meter.Left ≤ full
  most : sum - great < full
theorem MetW.same {w w' : Wld} {full sum great : Int} (h : MetW w full sum great) (e : w'.p.Meter = w.p.Meter) : MetW w' full sum great := by
  obtain ⟨a1, a2, a3, a4, a5, a6, a7, a8⟩ := h
  exact ⟨a1, a2, a3, a4, a5, by rw [e]; exact a6, by rw [e]; exact a7, a8⟩
theorem zak9 {p : za} {now : Int} (h : zal p = true ∧ p.Time ≤ now ∧ now ≤ 1099511627776) : (zli p now).1.Meter = (zfr p now).1.Meter := by
  unfold zli
  rw [if_pos h]
  show (zd6 (zd6 (znm p now) 0 now) 1 now).Meter = _
  rw [(zss _ 1 now).2.2.2.2.1, (zss _ 0 now).2.2.2.2.1]
  rfl
theorem z1b (s : Stake) : sumJ s s = 0 := by
  have : ∀ v, zjz s s v = 0 := by
    intro v; unfold zjz
    rw [if_neg (by rintro ⟨a, _, b⟩; rw [a] at b; cases b)]
  unfold sumJ; simp only [this]; rfl
theorem zala {w : Wld} (h : OkW w) {full sum great : Int} (hm : MetW w full sum great) :
    ((zfs w).p.Meter.Next ≠ w.p.Meter.Next → MetT w.p.Stake (zya (allP w.p.Set)) 0 0 (zfs w).p.Stake (zfs w).p.Meter) ∧
    ((zfs w).p.Meter.Next = w.p.Meter.Next → MetT w.p.Stake full sum great (zfs w).p.Stake (zfs w).p.Meter) := by
  have hg : zal w.p = true ∧ w.p.Time ≤ w.clock ∧ w.clock ≤ 1099511627776 := ⟨h.pr, h.pt, by have := h.t1; omega⟩
  have e1 : (zfs w).p.Meter = (zfr w.p w.clock).1.Meter := zak9 hg
  have e2 : (zfs w).p.Stake.Validators = (zfr w.p w.clock).1.Stake.Validators := by
    show (zli w.p w.clock).1.Stake.Validators = _
    rw [(zaft hg).2.2.1, zanj (z09 (now := w.clock) hg.1).1.good]
  have turns : ∀ {f s g : Int}, f ≤ 2305843009213693952 → 0 ≤ s → MetT w.p.Stake f s g w.p.Stake (znb w.p w.clock).Meter → MetT w.p.Stake f s g (zfs w).p.Stake (zfs w).p.Meter ∧ (zfs w).p.Meter.Next = (znb w.p w.clock).Meter.Next := by
    intro f s g hf h0 hm
    obtain ⟨k1, k2⟩ := zaca (p0 := znb w.p w.clock) h.p.1 hf h0 w.p.Queue 0 (znb w.p w.clock, ⟨false, false⟩, []) ⟨z5r hg.1, by simp, fun c hc => by rcases (show c = 0 ∨ c = 1 by omega) with rfl | rfl <;> rfl, fun b hb => by cases hb⟩ (fun a ha => ⟨(zadx hg.1 a ha).2, ha, by
      have := zlt ((goodPr_iff.1 hg.1).1.ask ha).2.2.1
      omega⟩) hm
    rw [e1]
    exact ⟨k1.same e2, k2⟩
  have keep : ∀ v : Int, 0 ≤ v ∧ v < 6 → (w.p.Stake.Validators.Jailed.get v = true → w.p.Stake.Validators.Jailed.get v = true) ∧ (w.p.Stake.Validators.Dead.get v = false → w.p.Stake.Validators.Tokens.get v = w.p.Stake.Validators.Tokens.get v) := fun v _ => ⟨id, fun _ => rfl⟩
  obtain ⟨f1, f2⟩ := zacb (z08 w.p.Set)
  have es : (znb w.p w.clock).Meter = z9t w.p.Meter (allP w.p.Set) w.clock := rfl
  by_cases c : w.p.Meter.Next ≤ w.clock
  · have e3 : (znb w.p w.clock).Meter = newM (allP w.p.Set) w.clock := by rw [es]; unfold z9t; rw [if_pos c]
    have e4 : (newM (allP w.p.Set) w.clock).Left = zya (allP w.p.Set) := rfl
    have e5 : (newM (allP w.p.Set) w.clock).Next = w.clock + 10 := by
      show IntKind.i64.wrap (w.clock + 10) = _
      have := h.t0; have := h.t1
      rw [zj (by omega) (by omega)]
    obtain ⟨k1, k2⟩ := turns (f := zya (allP w.p.Set)) (s := 0) (g := 0) f2 (Int.le_refl _) ⟨keep, by rw [e3, e4]; omega, by rw [z1b, e3, e4]; omega, 0, .inl rfl, by rw [z1b]; omega⟩
    exact ⟨fun _ => k1, fun k => by rw [k2, e3, e5] at k; omega⟩
  · have e3 : (znb w.p w.clock).Meter = w.p.Meter := by rw [es]; unfold z9t; rw [if_neg c]
    obtain ⟨a1, a2, a3, a4, a5, a6, a7, a8⟩ := hm
    obtain ⟨k1, k2⟩ := turns (f := full) (s := sum) (g := great) a2 a3 ⟨keep, by rw [e3]; omega, by rw [z1b, e3]; omega, great, .inl rfl, by rw [z1b]; omega⟩
    exact ⟨fun k => absurd (by rw [k2, e3]) k, fun _ => k1⟩
theorem zanv {w : Wld} (h : OkW w) (hd : w.deeds < 600) (d : Deed) : d.Kind ≠ 6 → (doW w d).1.p.Meter = w.p.Meter := by
  refine zanq h hd d (P := fun w' r => d.Kind ≠ 6 → w'.p.Meter = w.p.Meter) ?_ ?_ ?_ ?_ ?_ ?_ ?_ ?_ ?_ ?_ ?_ ?_ ?_ ?_ ?_
  · intro w' r a _ _; rw [a.p]
  · intro _ _ _; rfl
  · intro _ _ _; rfl
  · intro _ _ _; rfl
  · intro _ _ _ _ _; rfl
  · intro _ _ _ _; rfl
  · intro k k'; exact absurd k k'
  · intro _ _ _ _ _ _ _; rfl
  · intro _ _ _ _; rfl
  · intro _ _ _ _ _; rfl
  · intro _ _ _ _ _; rfl
  · intro q _ _ _ _ _ _ _; rfl
  · intro q _ _ _ _ _ _ _; rfl
  · intro _ _ _ _ _; rfl
  · intro q f _ _ _ _ _ _ _ _; rfl
theorem zahs {w : Wld} (h : OkW w) (hd : w.deeds < 600) {d : Deed} (k : d.Kind = 6) : (doW w d).2.Code = 0 := by
  have ht : zal w.p = true ∧ w.p.Time ≤ w.clock ∧ w.clock ≤ 1099511627776 := ⟨h.pr, h.pt, by have := h.t1; omega⟩
  unfold doW
  rw [if_neg (by omega)]
  unfold actW
  rw [if_neg (by omega), if_neg (by omega), if_neg (by omega), if_neg (by omega), if_neg (by omega), if_pos k]
  unfold zjd
  rw [if_neg (by show ¬ (zli w.p w.clock).2.2 ≠ 0; rw [z9y ht]; simp)]
theorem zaov {w : Wld} {was p : za} {full sum great : Int} (hs : GoodS was.Stake) (hf : 1 ≤ full ∧ full ≤ 2305843009213693952) (h0 : 0 ≤ sum) (hg0 : 0 ≤ great) (hg1 : great ≤ 1125899906842624) (hm : MetT was.Stake full sum great p.Stake p.Meter) :
    ∃ s g, ze7 (vsA p.Stake) 0 w was full sum great p = some (w, was, full, s, g, p) ∧ s = sum + sumJ was.Stake p.Stake ∧ 0 ≤ g ∧ g ≤ 1125899906842624 ∧ s - g < full := by
  have hn : ∀ v : Int, 0 ≤ v ∧ v < 6 → 0 ≤ zjz was.Stake p.Stake v ∧ zjz was.Stake p.Stake v ≤ 1125899906842624 := fun v hv => zwi hs p.Stake hv
  obtain ⟨a1, a2, a3, g0, a4, a5⟩ := hm
  have hstep : ∀ (v : Nat) (s g : Int), v < 6 → 0 ≤ s ∧ s ≤ 4611686018427387904 → (zd1 (vsA p.Stake) (v : Int) w was full s g p).run = some (.inl (vsA p.Stake, ((v + 1 : Nat) : Int), w, was, full, s + zjz was.Stake p.Stake (v : Int), (if p.Stake.Validators.Jailed.get (v : Int) = true ∧ p.Stake.Validators.Dead.get (v : Int) = false ∧ was.Stake.Validators.Jailed.get (v : Int) = false then (if zxc was.Stake (v : Int) > g then zxc was.Stake (v : Int) else g) else g), p)) := by
    intro v s g hv hsb
    have hv' : 0 ≤ (v : Int) ∧ (v : Int) < 6 := by omega
    have hul := z3o hs hv'
    have e2 : A6.get ⟨(vsA p.Stake).x0.Dead, (vsA p.Stake).x1.Dead, (vsA p.Stake).x2.Dead, (vsA p.Stake).x3.Dead, (vsA p.Stake).x4.Dead, (vsA p.Stake).x5.Dead⟩ (v : Int) = p.Stake.Validators.Dead.get v := rfl
    have e5 : A6.get ⟨(vsA p.Stake).x0.Jailed, (vsA p.Stake).x1.Jailed, (vsA p.Stake).x2.Jailed, (vsA p.Stake).x3.Jailed, (vsA p.Stake).x4.Jailed, (vsA p.Stake).x5.Jailed⟩ (v : Int) = p.Stake.Validators.Jailed.get v := rfl
    simp only [zd1]
    rw [e2, e5, Tr.run_true (by simp; omega), Tr.run_guard hv', Tr.run_guard hv']
    by_cases k : p.Stake.Validators.Jailed.get (v : Int) = true ∧ p.Stake.Validators.Dead.get (v : Int) = false ∧ was.Stake.Validators.Jailed.get (v : Int) = false
    · have hj : zjz was.Stake p.Stake (v : Int) = zxc was.Stake (v : Int) := by unfold zjz; rw [if_pos k]
      rw [Tr.run_true (by rw [k.1, k.2.1, k.2.2]; rfl), Tr.run_guard (by decide), Tr.run_leaf, z5 (by omega), if_pos k, hj]
      have : IntKind.i64.wrap (s + zxc was.Stake (v : Int)) = s + zxc was.Stake (v : Int) := zj (by omega) (by omega)
      rw [← this]
      rfl
    · have hj : zjz was.Stake p.Stake (v : Int) = 0 := by unfold zjz; rw [if_neg k]
      rw [Tr.run_false (by
        generalize p.Stake.Validators.Jailed.get (v : Int) = x1 at *
        generalize p.Stake.Validators.Dead.get (v : Int) = x2 at *
        generalize was.Stake.Validators.Jailed.get (v : Int) = x3 at *
        cases x1 <;> cases x2 <;> cases x3 <;> first | rfl | (exact absurd ⟨rfl, rfl, rfl⟩ k)), Tr.run_leaf, z5 (by omega), if_neg k, hj, Int.add_zero]
  have hb : sum ≤ 2305843009213693952 + 1125899906842624 := by have := zty hs p.Stake; omega
  have hj := zty hs p.Stake
  have n0 := hn 0 (by omega); have n1 := hn 1 (by omega); have n2 := hn 2 (by omega); have n3 := hn 3 (by omega); have n4 := hn 4 (by omega); have n5 := hn 5 (by omega)
  have big : ∀ (v : Int) (g : Int), 0 ≤ v ∧ v < 6 → ∃ g', (if p.Stake.Validators.Jailed.get v = true ∧ p.Stake.Validators.Dead.get v = false ∧ was.Stake.Validators.Jailed.get v = false then (if zxc was.Stake v > g then zxc was.Stake v else g) else g) = g' ∧ g ≤ g' ∧ (0 ≤ g → zjz was.Stake p.Stake v ≤ g') ∧ (g ≤ 1125899906842624 → g' ≤ 1125899906842624) := by
    intro v g hv
    refine ⟨_, rfl, ?_⟩
    have := z3o hs hv
    unfold zjz
    split
    · split
      · exact ⟨by omega, fun _ => by omega, fun _ => by omega⟩
      · exact ⟨by omega, fun _ => by omega, fun _ => by omega⟩
    · exact ⟨by omega, fun _ => by omega, fun _ => by omega⟩
  obtain ⟨g1, q1, b1, c1, d1⟩ := big 0 great (by omega)
  obtain ⟨g2, q2, b2, c2, d2⟩ := big 1 g1 (by omega)
  obtain ⟨g3, q3, b3, c3, d3⟩ := big 2 g2 (by omega)
  obtain ⟨g4, q4, b4, c4, d4⟩ := big 3 g3 (by omega)
  obtain ⟨g5, q5, b5, c5, d5⟩ := big 4 g4 (by omega)
  obtain ⟨g6, q6, b6, c6, d6⟩ := big 5 g5 (by omega)
  refine ⟨sum + zjz was.Stake p.Stake 0 + zjz was.Stake p.Stake 1 + zjz was.Stake p.Stake 2 + zjz was.Stake p.Stake 3 + zjz was.Stake p.Stake 4 + zjz was.Stake p.Stake 5, g6, ?_, by unfold sumJ; omega, by omega, d6 (d5 (d4 (d3 (d2 (d1 hg1))))), ?_⟩
  · have t0 := hstep 0 sum great (by omega) (by omega)
    have t1 := hstep 1 (sum + zjz was.Stake p.Stake 0) g1 (by omega) (by omega)
    have t2 := hstep 2 (sum + zjz was.Stake p.Stake 0 + zjz was.Stake p.Stake 1) g2 (by omega) (by omega)
    have t3 := hstep 3 (sum + zjz was.Stake p.Stake 0 + zjz was.Stake p.Stake 1 + zjz was.Stake p.Stake 2) g3 (by omega) (by omega)
    have t4 := hstep 4 (sum + zjz was.Stake p.Stake 0 + zjz was.Stake p.Stake 1 + zjz was.Stake p.Stake 2 + zjz was.Stake p.Stake 3) g4 (by omega) (by omega)
    have t5 := hstep 5 (sum + zjz was.Stake p.Stake 0 + zjz was.Stake p.Stake 1 + zjz was.Stake p.Stake 2 + zjz was.Stake p.Stake 3 + zjz was.Stake p.Stake 4) g5 (by omega) (by omega)
    rw [show (((0 : Nat) : Int)) = 0 from rfl, q1] at t0
    rw [show (((1 : Nat) : Int)) = 1 from rfl, q2] at t1
    rw [show (((2 : Nat) : Int)) = 2 from rfl, q3] at t2
    rw [show (((3 : Nat) : Int)) = 3 from rfl, q4] at t3
    rw [show (((4 : Nat) : Int)) = 4 from rfl, q5] at t4
    rw [show (((5 : Nat) : Int)) = 5 from rfl, q6] at t5
    rw [ze7, zb7 t0, zb7 t1, zb7 t2, zb7 t3, zb7 t4, zb7 t5]
    refine zgk ?_
    show (zd1 _ 6 _ _ _ _ _ _).run = _
    simp only [zd1]
    rw [Tr.run_false (by simp), Tr.run_leaf]
  · have : g0 ≤ g6 := by
      rcases a4 with a4 | ⟨v, hv, a4⟩
      · omega
      · obtain rfl | rfl | rfl | rfl | rfl | rfl : v = 0 ∨ v = 1 ∨ v = 2 ∨ v = 3 ∨ v = 4 ∨ v = 5 := by omega
        all_goals omega
    unfold sumJ at a5
    omega
theorem zaww : @znx = @ze7 := rfl
theorem zanw {w : Wld} (h : OkW w) (hd : w.deeds < 600) {d : Deed} {full sum great : Int} (hm : MetW w full sum great) :
    ∃ f s g, zw d (doW w d).2 (doW w d).1 w.p full sum great = some (true, (doW w d).1, (doW w d).1.p, f, s, g) ∧ MetW (doW w d).1 f s g := by
  have ho := z7x h d
  by_cases k : d.Kind = 6
  · have hc := zahs h hd k
    have hw := zanu h hd k
    rw [hw] at ho
    obtain ⟨m1, m2⟩ := zala h hm
    obtain ⟨f1, f2⟩ := zacb (z08 w.p.Set)
    have hall : zg8 w.p.Set = some (allP w.p.Set) := zaj0 (by have := zjy h.p.2.2.1 (by omega); omega)
    have fin : ∀ {f s g s' g' : Int}, 1 ≤ f → f ≤ 2305843009213693952 → 0 ≤ s → MetT w.p.Stake f s g (zfs w).p.Stake (zfs w).p.Meter → s' = s + sumJ w.p.Stake (zfs w).p.Stake → 0 ≤ g' → g' ≤ 1125899906842624 → s' - g' < f → MetW (zfs w) f s' g' ∧ decide (IntKind.i64.wrap (s' - g') < f) = true := by
      intro f s g s' g' x1 x2 x3 x4 x5 x6 x7 x8
      have hj := zty h.p.1 (zfs w).p.Stake
      have y1 := x4.all
      have y2 := x4.left
      refine ⟨⟨x1, x2, by omega, x6, x7, y2, by omega, x8⟩, ?_⟩
      rw [zj (by omega) (by omega)]
      exact decide_eq_true x8
    by_cases e : (zfs w).p.Meter.Next = w.p.Meter.Next
    · have mt := m2 e
      obtain ⟨s, g, l1, l2, l3, l4, l5⟩ := zaov (w := zfs w) (was := w.p) (p := (zfs w).p) h.p.1 ⟨hm.f0, hm.f1⟩ hm.s0 hm.g0 hm.g1 mt
      obtain ⟨z1, z2⟩ := fin hm.f0 hm.f1 hm.s0 mt l2 l3 l4 l5
      refine ⟨full, s, g, ?_, by rw [hw]; exact z1⟩
      rw [hw, zw, zei, Tr.run_bind (zad8 ho), Tr.run_false (by rw [k, hc]; rfl), Tr.run_false (by simpa using e)]
      rw [Tr.run_bind (v := (zfs w, w.p, full, s, g, (zfs w).p)) (by rw [zaww]; exact l1), Tr.run_leaf]
      simp only [z2]
    · have mt := m1 e
      obtain ⟨s, g, l1, l2, l3, l4, l5⟩ := zaov (w := zfs w) (was := w.p) (p := (zfs w).p) h.p.1 ⟨f1, f2⟩ (Int.le_refl _) (Int.le_refl _) (by omega) mt
      obtain ⟨z1, z2⟩ := fin f1 f2 (Int.le_refl _) mt l2 l3 l4 l5
      refine ⟨zya (allP w.p.Set), s, g, ?_, by rw [hw]; exact z1⟩
      rw [hw, zw, zei, Tr.run_bind (zad8 ho), Tr.run_false (by rw [k, hc]; rfl), Tr.run_true (by simpa using e), Tr.run_bind hall, Tr.run_bind (zaf0 (z08 _))]
      rw [Tr.run_bind (v := (zfs w, w.p, zya (allP w.p.Set), s, g, (zfs w).p)) (by exact l1), Tr.run_leaf]
      simp only [z2]
  · refine ⟨full, sum, great, ?_, hm.same (zanv h hd d k)⟩
    rw [zw, zei, Tr.run_bind (zad8 ho), Tr.run_true (by simp [k]), Tr.run_leaf]
theorem zad9 {l : List Deed} (hl : zawu l) : zk2 l = some true := by
  have loop : ∃ t : Int × Int × Int × Wld, zk1 l 0 newW.p 1 0 0 newW = some (.inr (t.2.2.2.p, t.1, t.2.1, t.2.2.1, t.2.2.2)) := by
    rw [zk1]
    have := zak3 (F := fun s : (List Deed) × Int × za × Int × Int × Int × Wld => (zfq s.1 s.2.1 s.2.2.1 s.2.2.2.1 s.2.2.2.2.1 s.2.2.2.2.2.1 s.2.2.2.2.2.2).run) (z94 l) (fun i (t : Int × Int × Int × Wld) => (l, (i : Int), t.2.2.2.p, t.1, t.2.1, t.2.2.1, t.2.2.2)) (fun i t => OkW t.2.2.2 ∧ t.2.2.2.deeds = i ∧ MetW t.2.2.2 t.1 t.2.1 t.2.2.1) (fun t => .inr (t.2.2.2.p, t.1, t.2.1, t.2.2.1, t.2.2.2)) ?_ ?_ (t := (1, 0, 0, newW)) ⟨zad0, rfl, by
      show MetW newW 1 0 0
      refine ⟨by omega, by omega, by omega, by omega, by omega, ?_, ?_, by omega⟩ <;> decide⟩
    · obtain ⟨t, h1, _⟩ := this
      exact ⟨t, h1⟩
    · rintro w ⟨h, _⟩
      simp only [zfq]
      rw [Tr.run_false zak4, Tr.run_leaf]
    · rintro i ⟨f, s, g, w⟩ hi ⟨h, hd, hm⟩
      have hlt := zans hi
      have hn := hl.2 _ (zhw (l := l) (k := i) hlt default)
      have ho := z7x h (l.getD i default)
      have hd : w.deeds = i := hd
      have h600 : w.deeds < 600 := by unfold z94 at hi; omega
      obtain ⟨f', s', g', hk, hm'⟩ := zanw (d := l.getD i default) h h600 hm
      refine ⟨(f', s', g', (doW w (l.getD i default)).1), ?_, ho, by show (doW w (l.getD i default)).1.deeds = _; rw [zant _ (by omega), hd]; omega, hm'⟩
      simp only [zfq]
      rw [Int.toNat_natCast, Tr.run_true (zak5 hi), Tr.run_guard ⟨by omega, by rw [z20]; omega⟩, Tr.run_bind (zakz h hn), Tr.run_guard ⟨by omega, by rw [z20]; omega⟩, hk, Tr.run_guard (by rfl), Tr.run_false (by rfl), Tr.run_leaf, z5 (by have := hl.1; omega)]
      rfl
  obtain ⟨t, h1⟩ := loop
  have ha : zbi 0 = some 1 := zaf0 (by unfold i64; omega)
  rw [zk2, zmn, Tr.run_bind z7o, Tr.run_bind ha, Tr.run_bind (v := (true, t.2.2.2.p, t.1, t.2.1, t.2.2.1, t.2.2.2)) (by
    rw [zvv, zmm, Tr.run_bind zanr, Tr.run_false (by rfl), Tr.run_bind zakw, Tr.run_inr (v := (t.2.2.2.p, t.1, t.2.1, t.2.2.1, t.2.2.2)) (by exact h1), Tr.run_leaf]), Tr.run_leaf]
end Go.Proofs.YtmakmlnfbdablaaGreat.Ab
