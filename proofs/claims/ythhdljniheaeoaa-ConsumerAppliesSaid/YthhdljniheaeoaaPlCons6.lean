/-
  ConsumerRipens, with no program in sight.
-/
import Derived.Test.YthhdljniheaeoaaFConsLaw
import Derived.Test.YthhdljniheaeoaaFCodec
import Derived.Test.YthhdljniheaeoaaPlCons5
namespace Go.Proofs.Ythhdljniheaeoaa.Ab
open Go Go.RowKit
set_option linter.unusedVariables false
set_option linter.unusedSimpArgs false

/-- Packet i that ConsumerRipens hands over. -/
def pkR (i : Nat) : Packet := ⟨1, ((2 + i : Nat) : Int), 0, 0, [], []⟩
def cR (n : Nat) : Consumer := { beginC [⟨0, 1⟩] 1 0 with Pending := (List.range n).map pkR }
def rpR (now : Int) (i : Nat) : Ripe := ⟨((2 + i : Nat) : Int), now + 15⟩

theorem pkR_good {i : Nat} (h : i < 20) : goodP (pkR i) = 0 := goodP_one (by omega) (by omega) rfl rfl
theorem goodL_empty : GoodL ⟨[], [], 0, false⟩ := ⟨rfl, by decide, by decide, by decide, by decide⟩
theorem numsC_one : numsC (beginC [⟨0, 1⟩] 1 0) := by decide
theorem cR_good {n : Nat} (h : n ≤ 20) : GoodC (cR n) = true := by
  refine goodC_of numsC_one goodL_empty (by rfl) (by rfl) ?_
  refine List.all_eq_true.2 fun p hp => ?_
  obtain ⟨i, hi, rfl⟩ := List.mem_map.1 hp
  unfold pendOk
  rw [pkR_good (by have := List.mem_range.1 hi; omega)]
  rfl
theorem cR_fit {n : Nat} (h : n ≤ 20) : FitC 140737488351232 (cR n) := by
  refine ⟨by show 1 * 16 ≤ _; omega, ?_, by show 0 * 16 ≤ _; omega, by show 0 * 16 ≤ _; omega, by show 0 * 8 ≤ _; omega, fun p hp => ?_⟩
  · show ((List.range n).map pkR).length * 80 ≤ _
    rw [List.length_map, List.length_range]; omega
  · obtain ⟨i, hi, rfl⟩ := List.mem_map.1 hp
    exact ⟨by show 0 * 16 ≤ _; omega, by show 0 * 8 ≤ _; omega⟩

theorem cR_hear {n : Nat} (h : n < 20) : hearC (cR n) (encP (pkR n)) = (cR (n + 1), 0) := by
  unfold hearC
  rw [if_neg (by rw [cR_good (by omega)]; simp), if_neg (by show ¬ (true = false); simp), dec_enc (pkR_good h), if_neg (by simp), if_neg (by show ¬ ((1 : Int) ≠ 1); omega)]
  unfold cR
  rw [List.range_succ, List.map_append]
  rfl

/-- What the pending ones do, where they change nothing of the set. -/
theorem pend_plain {now : Int} {s : List Power} (hs : applyP s [] = s) : ∀ (ps : List Packet) (c : Consumer), (∀ p, p ∈ ps → p.Set = [] ∧ p.Done = [] ∧ 0 ≤ p.Id ∧ p.Id ≤ 1099511627776) → c.Set = s → 0 ≤ c.Id → c.Id ≤ 1099511627776 →
    ∃ id : Int, 0 ≤ id ∧ id ≤ 1099511627776 ∧ ps.foldl (pendC now) c = { c with Id := id, Ripes := c.Ripes ++ ps.map (fun p => ⟨p.Id, IntKind.i64.wrap (now + 15)⟩) }
  | [], c, _, hc, h1, h2 => ⟨c.Id, h1, h2, by rw [List.foldl_nil, List.map_nil, List.append_nil]⟩
  | p :: ps, c, hp, hc, h1, h2 => by
    obtain ⟨p1, p2, p3, p4⟩ := hp p (List.mem_cons_self ..)
    have e : pendC now c p = { c with Id := p.Id, Ripes := c.Ripes ++ [⟨p.Id, IntKind.i64.wrap (now + 15)⟩] } := by
      rw [pendC_eq, p1, p2, hc, hs, ← hc]; rfl
    obtain ⟨id, i1, i2, i3⟩ := pend_plain hs ps (pendC now c p) (fun q hq => hp q (List.mem_cons_of_mem _ hq)) (by rw [e]; exact hc) (by rw [e]; exact p3) (by rw [e]; exact p4)
    refine ⟨id, i1, i2, ?_⟩
    rw [List.foldl_cons, i3, e]
    simp only [List.map_cons, List.append_assoc, List.singleton_append]

theorem ripenL_none {T : Int} {rs : List Ripe} {c : Consumer} (h : ∀ r, r ∈ rs → T < r.Due) : ripenL T rs c = c := by
  cases rs with
  | nil => rfl
  | cons r rs =>
    have := h r (List.mem_cons_self ..)
    unfold ripenL
    rw [if_neg (by omega)]

theorem goodP_two {id : Int} (h1 : 1 ≤ id) (h2 : id ≤ 1099511627776) : goodP ⟨2, id, 0, 0, [], []⟩ = 0 := by
  unfold goodP
  rw [if_neg (by simp), if_neg (by simp; omega), if_neg (by simp), if_neg (by simp [powsOk]), if_neg (by simp [doneOk])]

/-- All that is ripe is said, in order. -/
theorem ripe_all {T : Int} (hT : 0 ≤ IntKind.i64.wrap (T + 40)) : ∀ (rs : List Ripe) (c : Consumer), (∀ r, r ∈ rs → r.Due ≤ T ∧ 1 ≤ r.Id ∧ r.Id ≤ 1099511627776) → GoodL c.Out → c.Out.Closed = false → c.Out.Said.length + rs.length ≤ 400 → c.Ripes = rs →
    ripenL T rs c = { c with Ripes := [], Out := { c.Out with Said := c.Out.Said ++ rs.map (fun r => txt (encP ⟨2, r.Id, 0, 0, [], []⟩)), Due := c.Out.Due ++ rs.map (fun _ => IntKind.i64.wrap (T + 40)) } }
  | [], c, _, _, _, _, hr => by
    rw [← hr]
    unfold ripenL
    simp only [List.map_nil, List.append_nil, hr]
    cases c; simp only at hr; rw [hr]
  | r :: rs, c, h, h1, h2, h3, hr => by
    obtain ⟨r1, r2, r3⟩ := h r (List.mem_cons_self ..)
    have h3' : c.Out.Said.length < 400 := by rw [List.length_cons] at h3; omega
    have hs := sayC_yes (now := T) (goodP_two r2 r3) h1 hT h2 h3'
    unfold ripenL
    rw [if_pos r1, hs, if_neg (by simp)]
    refine Eq.trans (ripe_all hT rs { c with Ripes := rs, Out := { c.Out with Said := c.Out.Said ++ [txt (encP ⟨2, r.Id, 0, 0, [], []⟩)], Due := c.Out.Due ++ [IntKind.i64.wrap (T + 40)] } } (fun q hq => h q (List.mem_cons_of_mem _ hq)) (goodL_more h1 hT h3') h2 (by simp only [List.length_append, List.length_singleton]; rw [List.length_cons] at h3; omega) rfl) ?_
    simp only [List.map_cons, List.append_assoc, List.singleton_append]

theorem pl_ConsumerRipens {l : List Int} {a1 a2 : Int} (hl : l.length ≤ 9223372036854775807) : sh_keep_ConsumerRipens l a1 a2 = some true := by
  obtain ⟨now, n1, n2, n3⟩ := pl_pick (a := a1) (n := 1000) (by omega) (by omega)
  obtain ⟨lat, t1, t2, t3⟩ := pl_pick (a := a2) (n := 60) (by omega) (by omega)
  rw [sh_keep_ConsumerRipens, T_keep_ConsumerRipens, Tr.run_bind pl_keepconsumes, Tr.run_false (by rfl), Tr.run_bind n1, Tr.run_bind t1, Tr.run_bind (pl_Begin (by simp))]
  -- the packets
  obtain ⟨n, hn⟩ : ∃ n, n = min l.length 20 := ⟨_, rfl⟩
  have hn20 : n ≤ 20 := by omega
  have k1 : sh_keep_ConsumerRipens_l1 l now lat 0 0 (beginC [⟨0, 1⟩] 1 0) = some (.inr (now, lat, (n : Int), cR n)) := by
    rw [sh_keep_ConsumerRipens_l1]
    refine iter_uptof (F := fun s : (List Int) × Int × Int × Int × Int × Consumer => (T_keep_ConsumerRipens_l1 s.1 s.2.1 s.2.2.1 s.2.2.2.1 s.2.2.2.2.1 s.2.2.2.2.2).run) n
      (fun i (_ : Unit) => (l, now, lat, (i : Int), (i : Int), cR i)) (fun i _ => True) (fun _ _ => .inr (now, lat, (n : Int), cR n)) ?_ ?_ 0 () (by omega) trivial
    · intro _ _
      simp only [T_keep_ConsumerRipens_l1]
      rw [Tr.run_false (by simp; omega), Tr.run_leaf]
    · intro i _ hi _
      have hw : IntKind.i64.wrap (2 + (i : Int)) = ((2 + i : Nat) : Int) := by rw [i64_in (by omega) (by omega)]; omega
      have hel := encP_length (pkR i)
      have hel2 : (encP (pkR i)).length ≤ 17 := by rw [hel]; show 17 + 8 * 0 + 0 ≤ 17; omega
      have he : sh_codec_Encode ⟨1, ((2 + i : Nat) : Int), 0, 0, [], []⟩ = some (txt (encP (pkR i)), 0) := (pl_Encode (p := pkR i) (by show 0 * 16 ≤ _; omega) (by show 0 * 8 ≤ _; omega)).trans (by rw [encodeP_good (pkR_good (by omega))])
      refine .inl ⟨(), ?_, trivial, rfl⟩
      simp only [T_keep_ConsumerRipens_l1]
      rw [Tr.run_true (by simp; omega), hw, Tr.run_bind he]
      simp only
      rw [Tr.run_bind (pl_Hear (cR_fit (by omega)) (by rw [txt_size]; omega)), txt_toList, cR_hear (by omega), Tr.run_false (by simp), Tr.run_leaf, i64_nat (by omega)]
  rw [Tr.run_inr k1]
  simp only
  -- the first end
  have hp : ∀ p, p ∈ (cR n).Pending → p.Set = [] ∧ p.Done = [] ∧ 0 ≤ p.Id ∧ p.Id ≤ 1099511627776 := by
    intro p hp
    obtain ⟨i, hi, rfl⟩ := List.mem_map.1 hp
    have := List.mem_range.1 hi
    exact ⟨rfl, rfl, by show (0 : Int) ≤ ((2 + i : Nat) : Int); omega, by show ((2 + i : Nat) : Int) ≤ _; omega⟩
  obtain ⟨id, i1, i2, i3⟩ := pend_plain (now := now) (s := [⟨0, 1⟩]) (by rfl) (cR n).Pending { cR n with Height := IntKind.i64.wrap ((cR n).Height + 1), Time := now } hp rfl (by show (0 : Int) ≤ 1; omega) (by show (1 : Int) ≤ _; omega)
  have hw15 : IntKind.i64.wrap (now + 15) = now + 15 := i64_in (by omega) (by omega)
  have hmap : (cR n).Pending.map (fun p => (⟨p.Id, IntKind.i64.wrap (now + 15)⟩ : Ripe)) = (List.range n).map (rpR now) := by
    show ((List.range n).map pkR).map _ = _
    rw [List.map_map, hw15]; rfl
  obtain ⟨c1, hc1⟩ : ∃ c1 : Consumer, c1 = { beginC [⟨0, 1⟩] id now with Height := 1, Ripes := (List.range n).map (rpR now) } := ⟨_, rfl⟩
  have e1 : endC now (cR n) = (c1, 0) := by
    rw [endC_yes (cR_good hn20) rfl (by show (0 : Int) ≤ now; omega) (by omega), i3, hmap]
    have : ({ cR n with Height := IntKind.i64.wrap ((cR n).Height + 1), Time := now } : Consumer).Ripes = [] := rfl
    rw [this, List.nil_append, ripenL_none, hc1]
    · rfl
    · intro r hr
      obtain ⟨i, hi, rfl⟩ := List.mem_map.1 hr
      show now < now + 15
      omega
  have hlen : c1.Ripes.length = n := by rw [hc1]; show ((List.range n).map (rpR now)).length = n; rw [List.length_map, List.length_range]
  have g1 : GoodC c1 = true := by
    rw [hc1]
    refine goodC_of ⟨rfl, by show (0 : Int) ≤ 1; omega, by show (1 : Int) < _; omega, n2, by show now ≤ _; omega, i1, i2⟩ goodL_empty (by rfl) ?_ (by rfl)
    refine List.all_eq_true.2 fun r hr => ?_
    obtain ⟨i, hi, rfl⟩ := List.mem_map.1 hr
    have := List.mem_range.1 hi
    unfold ripeOk rpR
    simp only [Bool.and_eq_true, decide_eq_true_eq]
    omega
  have f1 : FitC 140737488351232 c1 := by
    refine ⟨by rw [hc1]; show 1 * 16 ≤ _; omega, by rw [hc1]; show 0 * 80 ≤ _; omega, by rw [hlen]; omega, by rw [hc1]; show 0 * 16 ≤ _; omega, by rw [hc1]; show 0 * 8 ≤ _; omega, fun p hp => ?_⟩
    rw [hc1] at hp; cases hp
  have hwT : IntKind.i64.wrap (now + lat) = now + lat := i64_in (by omega) (by omega)
  rw [Tr.run_bind (pl_End (cR_fit hn20) (by show (0 + ((List.range n).map pkR).length) * 16 ≤ _; rw [List.length_map, List.length_range]; omega)), e1]
  simp only
  have hp1 : c1.Pending = [] := by rw [hc1]; rfl
  rw [hwT, Tr.run_bind (pl_End f1 (by rw [hlen, hp1]; show (n + 0) * 16 ≤ _; omega))]
  obtain ⟨c2, hc2⟩ : ∃ c2 : Consumer, c2 = { beginC [⟨0, 1⟩] id (now + lat) with Height := 2, Ripes := (List.range n).map (rpR now) } := ⟨_, rfl⟩
  have e2 : endC (now + lat) c1 = (ripenL (now + lat) ((List.range n).map (rpR now)) c2, 0) := by
    rw [endC_yes g1 (by rw [hc1]; rfl) (by rw [hc1]; show now ≤ now + lat; omega) (by omega), hp1, List.foldl_nil, hc1, hc2]; rfl
  rw [e2, Tr.run_false (by rw [hlen, hc1]; simp [beginC])]
  by_cases hl15 : lat < 15
  · rw [Tr.run_true (by simpa using hl15), ripenL_none (by
      intro r hr
      obtain ⟨i, hi, rfl⟩ := List.mem_map.1 hr
      show now + lat < now + 15
      omega), Tr.run_leaf, hc2]
    simp [beginC]
  · have hw40 : IntKind.i64.wrap (now + lat + 40) = now + lat + 40 := i64_in (by omega) (by omega)
    rw [Tr.run_false (by simpa using hl15), ripe_all (by rw [hw40]; omega) _ _ (by
        intro r hr
        obtain ⟨i, hi, rfl⟩ := List.mem_map.1 hr
        have := List.mem_range.1 hi
        refine ⟨by show now + 15 ≤ now + lat; omega, by show (1 : Int) ≤ ((2 + i : Nat) : Int); omega, by show ((2 + i : Nat) : Int) ≤ _; omega⟩) (by rw [hc2]; exact goodL_empty) (by rw [hc2]; rfl) (by rw [hc2]; show 0 + ((List.range n).map (rpR now)).length ≤ 400; rw [List.length_map, List.length_range]; omega) (by rw [hc2])]
    rw [hw40]
    obtain ⟨c3, hc3⟩ : ∃ c3 : Consumer, c3 = { c2 with Ripes := [], Out := { c2.Out with Said := c2.Out.Said ++ ((List.range n).map (rpR now)).map (fun r => txt (encP ⟨2, r.Id, 0, 0, [], []⟩)), Due := c2.Out.Due ++ ((List.range n).map (rpR now)).map (fun _ => now + lat + 40) } } := ⟨_, rfl⟩
    rw [← hc3]
    have s1 : c3.Out.Said = (List.range n).map (fun i => txt (encP ⟨2, ((2 + i : Nat) : Int), 0, 0, [], []⟩)) := by
      rw [hc3, hc2]
      show [] ++ _ = _
      rw [List.nil_append, List.map_map]; rfl
    have s2 : c3.Out.Due = (List.range n).map (fun _ => now + lat + 40) := by
      rw [hc3, hc2]
      show [] ++ _ = _
      rw [List.nil_append, List.map_map]; rfl
    have s3 : c3.Ripes = [] := by rw [hc3]
    have s4 : c3.Out.Said.length = n := by rw [s1, List.length_map, List.length_range]
    have s5 : c3.Out.Due.length = n := by rw [s2, List.length_map, List.length_range]
    have k2 : sh_keep_ConsumerRipens_l2 now lat (n : Int) c3.Out.Said c3.Out.Said.length 0 c3 = some (.inr ((n : Int), c3)) := by
      rw [sh_keep_ConsumerRipens_l2, s4]
      refine iter_uptof (F := fun s : Int × Int × Int × (List ByteArray) × Int × Int × Consumer => (T_keep_ConsumerRipens_l2 s.1 s.2.1 s.2.2.1 s.2.2.2.1 s.2.2.2.2.1 s.2.2.2.2.2.1 s.2.2.2.2.2.2).run) n
        (fun i (_ : Unit) => (now, lat, (n : Int), c3.Out.Said, (n : Int), (i : Int), c3)) (fun i _ => True) (fun _ _ => .inr ((n : Int), c3)) ?_ ?_ 0 () (by omega) trivial
      · intro _ _
        simp only [T_keep_ConsumerRipens_l2]
        rw [Tr.run_false (by simp), Tr.run_leaf]
      · intro i _ hi _
        have hw : IntKind.i64.wrap (2 + (i : Int)) = ((2 + i : Nat) : Int) := by rw [i64_in (by omega) (by omega)]; omega
        have q1 : c3.Out.Said.getD i .empty = txt (encP ⟨2, ((2 + i : Nat) : Int), 0, 0, [], []⟩) := by
          rw [s1, List.getD_eq_getElem?_getD, List.getElem?_map, List.getElem?_range hi]; rfl
        have q2 : c3.Out.Due.getD i 0 = now + lat + 40 := by
          rw [s2, List.getD_eq_getElem?_getD, List.getElem?_map, List.getElem?_range hi]; rfl
        have hel := encP_length ⟨2, ((2 + i : Nat) : Int), 0, 0, [], []⟩
        simp only [List.length_nil] at hel
        refine .inl ⟨(), ?_, trivial, rfl⟩
        simp only [T_keep_ConsumerRipens_l2, Int.toNat_natCast]
        rw [Tr.run_true (by simp; omega), Tr.run_guard ⟨by omega, by show (i : Int) < ((c3.Out.Said.length : Nat) : Int); omega⟩, q1, q2, Tr.run_bind (pl_Decode (by omega)), dec_enc (goodP_two (by omega) (by omega)),
          Tr.run_guard (by intro _; exact ⟨⟨by omega, by rw [sl_len_ints]; omega⟩, trivial⟩), hw, Tr.run_false (by
            rw [i64_in (x := now + lat + 40 - now) (by omega) (by omega), i64_in (by omega) (by omega)]
            simp; omega), Tr.run_leaf, i64_nat (by omega)]
    rw [Tr.run_inr k2, Tr.run_leaf, s4, s3]
    simp

end Go.Proofs.Ythhdljniheaeoaa.Ab
