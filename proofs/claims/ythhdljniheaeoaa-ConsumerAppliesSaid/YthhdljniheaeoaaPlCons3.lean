/-
  Consumers, with no program in sight: Begin, Hear, End, Down, Double, Remove, twice told, are the same.
-/
import Derived.Test.YthhdljniheaeoaaFCons
import Derived.Test.YthhdljniheaeoaaFCodec
import Derived.Test.YthhdljniheaeoaaPlCons2
namespace Go.Proofs.Ythhdljniheaeoaa.Ab
open Go Go.RowKit
set_option linter.unusedVariables false
set_option linter.unusedSimpArgs false

def beginC (l : List Power) (id now : Int) : Consumer := ⟨true, false, 0, now, id, l, [], [], ⟨false, false, false, false, false, false⟩, ⟨[], [], 0, false⟩, ⟨0, 0, 0, 0⟩⟩

theorem pl_Begin {l : List Power} {id now : Int} (hl : l.length * 16 ≤ 140737488355328) : sh_consumer_Begin l id now = some (beginC l id now) := by
  rw [sh_consumer_Begin, T_consumer_Begin, Tr.run_bind (pl_clonePw hl), Tr.run_leaf]; rfl

theorem pl_refBegin {l : List Power} {id now : Int} (hl : l.length * 16 ≤ 140737488355328) : sh_ref_BeginConsumer l id now = some (beginC l id now) := by
  rw [sh_ref_BeginConsumer, T_ref_BeginConsumer, Tr.run_guard (by rw [sl_len_powers]; omega), Tr.run_leaf]; rfl

def hearC (c : Consumer) (s : List UInt8) : Consumer × Int :=
  if GoodC c = false then (c, 2) else if c.On = false then (c, 4) else if (decodeP s).2 ≠ 0 then (c, (decodeP s).2) else if (decodeP s).1.Kind ≠ 1 then (c, 3)
  else ({ c with Pending := c.Pending ++ [(decodeP s).1] }, 0)

theorem pl_Hear {c : Consumer} {a : ByteArray} (h : FitC 140737488351232 c) (ha : a.size ≤ 140737488355328) : sh_consumer_Hear c a = some (hearC c a.data.toList) := by
  have e1 : sh_codec_Decode a = some (decodeP a.data.toList) := pl_Decode (s := a.data.toList) (by have : a.data.toList.length = a.size := rfl; omega)
  have e2 := h.pend
  rw [sh_consumer_Hear, T_consumer_Hear, Tr.run_bind e1, Tr.run_bind (pl_consGood h)]
  simp only [pl_clonePk (l := c.Pending) (by omega), Option.isSome_some, Option.getD_some]
  unfold hearC
  cases hg : GoodC c with
  | false => rw [Tr.run_true (by rfl), Tr.run_leaf, if_pos rfl]
  | true =>
    rw [Tr.run_false (by rfl), if_neg (by simp)]
    cases ho : c.On with
    | false => rw [Tr.run_true (by rfl), Tr.run_leaf, if_pos rfl]
    | true =>
      rw [Tr.run_false (by rfl), if_neg (by simp)]
      by_cases hd : (decodeP a.data.toList).2 = 0
      · rw [Tr.run_false (by simpa using hd), if_neg (by simpa using hd)]
        by_cases hk : (decodeP a.data.toList).1.Kind = 1
        · rw [Tr.run_false (by simpa using hk), if_neg (by simpa using hk), Tr.run_guard (by trivial), Tr.run_guard (by simp only [sl_len_packets, List.length_singleton]; omega), Tr.run_leaf]
        · rw [Tr.run_true (by simpa using hk), if_pos hk, Tr.run_leaf]
      · rw [Tr.run_true (by simpa using hd), if_pos hd, Tr.run_leaf]

theorem pl_refHear {c : Consumer} {a : ByteArray} (h : FitC 140737488351232 c) (ha : a.size ≤ 140737488355328) : sh_ref_ConsumerHear c a = some (hearC c a.data.toList) := by
  have e1 : sh_ref_DecodePacket a = some (decodeP a.data.toList) := pl_refDecode (s := a.data.toList) (by have : a.data.toList.length = a.size := rfl; omega)
  have e2 := h.pend
  rw [sh_ref_ConsumerHear, T_ref_ConsumerHear, Tr.run_bind (pl_refconsGood h)]
  unfold hearC
  cases hg : GoodC c with
  | false => rw [Tr.run_true (by rfl), Tr.run_leaf, if_pos rfl]
  | true =>
    rw [Tr.run_false (by rfl), if_neg (by simp)]
    cases ho : c.On with
    | false => rw [Tr.run_true (by rfl), Tr.run_leaf, if_pos rfl]
    | true =>
      rw [Tr.run_false (by rfl), if_neg (by simp), Tr.run_bind e1]
      by_cases hd : (decodeP a.data.toList).2 = 0
      · rw [Tr.run_false (by simpa using hd), if_neg (by simpa using hd)]
        by_cases hk : (decodeP a.data.toList).1.Kind = 1
        · rw [Tr.run_false (by simpa using hk), if_neg (by simpa using hk), Tr.run_bind (pl_copyC_o h), Tr.run_guard (by simp only [sl_len_packets, List.length_singleton]; omega), Tr.run_leaf]; simp only [ho]
        · rw [Tr.run_true (by simpa using hk), if_pos hk, Tr.run_leaf]
      · rw [Tr.run_true (by simpa using hd), if_pos hd, Tr.run_leaf]

theorem hearC_count {c : Consumer} {s : List UInt8} (h : FitC 140737488351232 c) : CountC (hearC c s).1 := by
  have h0 := (h.mono (S := 9223372036854775807) (by omega)).count
  have e2 := h.pend
  unfold hearC
  repeat' split
  all_goals (first | exact h0 | skip)
  refine ⟨h0.set, by simp only [List.length_append, List.length_singleton]; omega, h0.ripes, h0.said, h0.due, fun p hp => ?_⟩
  rcases List.mem_append.1 hp with hp | hp
  · exact h0.ps p hp
  · obtain rfl := List.mem_singleton.1 hp
    obtain ⟨d1, d2, _, _⟩ := decodeP_len s
    exact ⟨d1, d2⟩

/-! What is said. -/

def sayC (p : Packet) (now : Int) (c : Consumer) : Int × Consumer :=
  if (encodeP p).2 ≠ 0 then ((encodeP p).2, c)
  else if (sayL c.Out (encodeP p).1 (IntKind.i64.wrap (now + 40))).2 ≠ 0 then ((sayL c.Out (encodeP p).1 (IntKind.i64.wrap (now + 40))).2, c)
  else (0, { c with Out := (sayL c.Out (encodeP p).1 (IntKind.i64.wrap (now + 40))).1 })

theorem sayC_bad {p : Packet} {now : Int} {c : Consumer} (h : (sayC p now c).1 ≠ 0) : (sayC p now c).2 = c := by
  unfold sayC at h ⊢
  split
  · rfl
  · split
    · rfl
    · rename_i h1 h2
      rw [if_neg h1, if_neg h2] at h
      exact absurd rfl h

theorem sayL_fit {R : Nat} (hR : 6416 ≤ R) {l : Line} {s : ByteArray} {u : Int} (h1 : l.Said.length * 16 ≤ R) (h2 : l.Due.length * 8 ≤ R) : (sayL l s u).1.Said.length * 16 ≤ R ∧ (sayL l s u).1.Due.length * 8 ≤ R := by
  unfold sayL
  split
  · exact ⟨h1, h2⟩
  · rename_i h0
    split
    · exact ⟨h1, h2⟩
    · split
      · exact ⟨h1, h2⟩
      · have hg : GoodL l := by
          refine Classical.byContradiction fun hn => h0 (.inl hn)
        have e := hg.1
        simp only [List.length_append, List.length_singleton]
        omega

theorem sayC_fit {R : Nat} (hR : 6416 ≤ R) {p : Packet} {now : Int} {c : Consumer} (h : FitC R c) : FitC R (sayC p now c).2 := by
  unfold sayC
  split
  · exact h
  · split
    · exact h
    · obtain ⟨k1, k2⟩ := sayL_fit hR (s := (encodeP p).1) (u := IntKind.i64.wrap (now + 40)) h.said h.due
      exact ⟨h.set, h.pend, h.ripes, k1, k2, h.ps⟩

theorem sayC_ripes {p : Packet} {now : Int} {c : Consumer} : (sayC p now c).2.Ripes = c.Ripes := by
  unfold sayC
  repeat' split
  all_goals rfl

theorem pl_say {p : Packet} {now : Int} {c : Consumer} (h1 : p.Set.length * 16 ≤ 140737488351232) (h2 : p.Done.length * 8 ≤ 140737488351232) : sh_consumer_say p now c = some (sayC p now c) := by
  rw [sh_consumer_say, T_consumer_say, Tr.run_bind (pl_Encode h1 h2)]
  unfold sayC
  by_cases he : (encodeP p).2 = 0
  · rw [if_neg (by simpa using he), Tr.run_false (by simpa using he), Tr.run_bind (pl_Say _ _ _)]
    by_cases hs : (sayL c.Out (encodeP p).1 (IntKind.i64.wrap (now + 40))).2 = 0
    · rw [if_neg (by simpa using hs), Tr.run_false (by simpa using hs), Tr.run_leaf]
    · rw [if_pos hs, Tr.run_true (by simpa using hs), Tr.run_leaf]
  · rw [if_pos he, Tr.run_true (by simpa using he), Tr.run_leaf]

theorem pl_saying {p : Packet} {now : Int} {c : Consumer} (h : FitC 140737488351232 c) (h1 : p.Set.length * 16 ≤ 140737488351232) (h2 : p.Done.length * 8 ≤ 140737488351232) :
    sh_ref_saying c p now = some ((sayC p now c).2, (sayC p now c).1) := by
  have hd := h.due
  rw [sh_ref_saying, T_ref_saying, Tr.run_bind (pl_refEncode h1 h2)]
  unfold sayC
  by_cases he : (encodeP p).2 = 0
  · rw [if_neg (by simpa using he), Tr.run_false (by simpa using he), Tr.run_bind (pl_refSay _ _ (by omega))]
    by_cases hs : (sayL c.Out (encodeP p).1 (IntKind.i64.wrap (now + 40))).2 = 0
    · rw [if_neg (by simpa using hs), Tr.run_false (by simpa using hs), Tr.run_bind (pl_copyC h), Tr.run_leaf]
    · rw [if_pos hs, Tr.run_true (by simpa using hs), Tr.run_leaf]
  · rw [if_pos he, Tr.run_true (by simpa using he), Tr.run_leaf]

/-! The end of a block. -/

def clrC (c : Consumer) (v : Int) : Consumer := { c with Flags := c.Flags.set v false }
def clrAll (c : Consumer) (l : List Int) : Consumer := l.foldl clrC c
theorem clrAll_eq : ∀ (l : List Int) (c : Consumer), clrAll c l = { c with Flags := l.foldl (fun f v => f.set v false) c.Flags }
  | [], c => rfl
  | v :: l, c => by unfold clrAll; rw [List.foldl_cons]; exact (clrAll_eq l (clrC c v)).trans rfl

def pendC (now : Int) (c : Consumer) (p : Packet) : Consumer :=
  { clrAll { c with Set := applyP c.Set p.Set, Id := p.Id } p.Done with Ripes := (clrAll { c with Set := applyP c.Set p.Set, Id := p.Id } p.Done).Ripes ++ [⟨p.Id, IntKind.i64.wrap (now + 15)⟩] }

theorem pendC_eq (now : Int) (c : Consumer) (p : Packet) :
    pendC now c p = { c with Set := applyP c.Set p.Set, Id := p.Id, Flags := p.Done.foldl (fun f v => f.set v false) c.Flags, Ripes := c.Ripes ++ [⟨p.Id, IntKind.i64.wrap (now + 15)⟩] } := by
  unfold pendC; rw [clrAll_eq]

def ripenL (now : Int) : List Ripe → Consumer → Consumer
  | [], c => c
  | r :: rs, c => if r.Due ≤ now then (if (sayC ⟨2, r.Id, 0, 0, [], []⟩ now c).1 ≠ 0 then c else ripenL now rs { (sayC ⟨2, r.Id, 0, 0, [], []⟩ now c).2 with Ripes := rs }) else c

def endC (now : Int) (c : Consumer) : Consumer × Int :=
  if GoodC c = false then (c, 2) else if c.On = false then (c, 4) else if now < c.Time ∨ 1099511627776 < now then (c, 2)
  else (ripenL now (c.Pending.foldl (pendC now) { c with Height := IntKind.i64.wrap (c.Height + 1), Time := now }).Ripes { c.Pending.foldl (pendC now) { c with Height := IntKind.i64.wrap (c.Height + 1), Time := now } with Pending := [] }, 0)

theorem end_l1 {now x2 x3 : Int} {x1 : List Packet} {l : List Int} {c z : Consumer} {p : Packet} (hl : l.length ≤ 9223372036854775807) (hv : ∀ v, v ∈ l → 0 ≤ v ∧ v ≤ 5) :
    sh_consumer_End_l1 now x1 x2 x3 l l.length 0 c z p = some (now, x1, x2, x3, clrAll c l, z, p) := by
  rw [sh_consumer_End_l1]
  refine loop_fold (F := fun s : Int × (List Packet) × Int × Int × (List Int) × Int × Int × Consumer × Consumer × Packet => (T_consumer_End_l1 s.1 s.2.1 s.2.2.1 s.2.2.2.1 s.2.2.2.2.1 s.2.2.2.2.2.1 s.2.2.2.2.2.2.1 s.2.2.2.2.2.2.2.1 s.2.2.2.2.2.2.2.2.1 s.2.2.2.2.2.2.2.2.2).run) l 0
    (fun i t => (now, x1, x2, x3, l, (l.length : Int), (i : Int), t, z, p)) (fun _ _ => True) clrC (fun t => (now, x1, x2, x3, t, z, p)) ?_ ?_ c trivial
  · intro t _
    simp only [T_consumer_End_l1]; rw [Tr.run_false (by simp), Tr.run_leaf]
  · intro i t hi _
    have hm := hv _ (getD_mem (l := l) (k := i) hi 0)
    refine ⟨?_, trivial⟩
    simp only [T_consumer_End_l1, Int.toNat_natCast]
    rw [Tr.run_true (by simpa using hi), Tr.run_guard ⟨by omega, by rw [sl_len_ints]; omega⟩, Tr.run_guard (by omega), Tr.run_leaf, i64_nat (by omega)]
    rfl

theorem ref_end_l1 {now x2 x3 : Int} {x1 : List Packet} {l : List Int} {c z : Consumer} {p : Packet} (hl : l.length ≤ 9223372036854775807) (hv : ∀ v, v ∈ l → 0 ≤ v ∧ v ≤ 5) :
    sh_ref_EndConsumer_l1 now x1 x2 x3 l l.length 0 z c p = some (now, x1, x2, x3, z, clrAll c l, p) := by
  rw [sh_ref_EndConsumer_l1]
  refine loop_fold (F := fun s : Int × (List Packet) × Int × Int × (List Int) × Int × Int × Consumer × Consumer × Packet => (T_ref_EndConsumer_l1 s.1 s.2.1 s.2.2.1 s.2.2.2.1 s.2.2.2.2.1 s.2.2.2.2.2.1 s.2.2.2.2.2.2.1 s.2.2.2.2.2.2.2.1 s.2.2.2.2.2.2.2.2.1 s.2.2.2.2.2.2.2.2.2).run) l 0
    (fun i t => (now, x1, x2, x3, l, (l.length : Int), (i : Int), z, t, p)) (fun _ _ => True) clrC (fun t => (now, x1, x2, x3, z, t, p)) ?_ ?_ c trivial
  · intro t _
    simp only [T_ref_EndConsumer_l1]; rw [Tr.run_false (by simp), Tr.run_leaf]
  · intro i t hi _
    have hm := hv _ (getD_mem (l := l) (k := i) hi 0)
    refine ⟨?_, trivial⟩
    simp only [T_ref_EndConsumer_l1, Int.toNat_natCast]
    rw [Tr.run_true (by simpa using hi), Tr.run_guard ⟨by omega, by rw [sl_len_ints]; omega⟩, Tr.run_guard (by omega), Tr.run_leaf, i64_nat (by omega)]
    rfl

theorem pend_done {l : List Packet} (h : l.all pendOk = true) : ∀ p, p ∈ l → goodP p = 0 ∧ p.Kind = 1 ∧ (∀ v, v ∈ p.Done → 0 ≤ v ∧ v ≤ 5) := by
  intro p hp
  have h1 := List.all_eq_true.1 h p hp
  unfold pendOk at h1
  simp only [Bool.and_eq_true, beq_iff_eq] at h1
  obtain ⟨g1, g2, g3, g4, g5, g6, g7, g8, g9, g10, _, _⟩ := good_facts h1.2
  exact ⟨h1.2, h1.1, doneOk_mem g10 (by omega)⟩

theorem end_l2 {now : Int} {l : List Packet} {c z : Consumer} (hl : l.length ≤ 9223372036854775807) (hg : l.all pendOk = true) (hs : c.Set.length ≤ 9223372036854775807)
    (hp : ∀ p, p ∈ l → p.Set.length * 16 ≤ 140737488351232 ∧ p.Done.length * 8 ≤ 140737488351232) (hr : (c.Ripes.length + l.length) * 16 ≤ 140737488355328) :
    sh_consumer_End_l2 now l l.length 0 c z = some (now, l.foldl (pendC now) c, z) := by
  rw [sh_consumer_End_l2]
  refine loop_fold (F := fun s : Int × (List Packet) × Int × Int × Consumer × Consumer => (T_consumer_End_l2 s.1 s.2.1 s.2.2.1 s.2.2.2.1 s.2.2.2.2.1 s.2.2.2.2.2).run) l default
    (fun i t => (now, l, (l.length : Int), (i : Int), t, z)) (fun i t => t.Ripes.length = c.Ripes.length + i ∧ t.Set.length ≤ 9223372036854775807) (pendC now) (fun t => (now, t, z)) ?_ ?_ c ⟨rfl, hs⟩
  · intro t _
    simp only [T_consumer_End_l2]; rw [Tr.run_false (by simp), Tr.run_leaf]
  · intro i t hi ht
    obtain ⟨t1, t2⟩ := ht
    have hm := getD_mem (l := l) (k := i) hi default
    obtain ⟨p1, p2⟩ := hp _ hm
    obtain ⟨q1, q2, q3⟩ := pend_done hg _ hm
    have hset := setOf_len (fun v => lastP (l.getD i default).Set v (findP t.Set v))
    refine ⟨?_, by rw [pendC_eq]; simp only [List.length_append, List.length_singleton]; omega, by rw [pendC_eq]; unfold applyP; simp only []; omega⟩
    simp only [T_consumer_End_l2, Int.toNat_natCast]
    rw [Tr.run_true (by simpa using hi), Tr.run_guard ⟨by omega, by rw [sl_len_packets]; omega⟩, Tr.run_bind (pl_Apply t2 (by omega)), Tr.run_bind (end_l1 (by omega) q3)]
    simp only []
    rw [Tr.run_guard (by simp only [sl_len_ripes, List.length_singleton, clrAll_eq]; omega), Tr.run_leaf, i64_nat (by omega)]
    rfl

theorem ref_end_l2 {now : Int} {l : List Packet} {c z : Consumer} (hl : l.length ≤ 9223372036854775807) (hg : l.all pendOk = true) (hs : c.Set.length ≤ 9223372036854775807)
    (hp : ∀ p, p ∈ l → p.Set.length * 16 ≤ 140737488351232 ∧ p.Done.length * 8 ≤ 140737488351232) (hr : (c.Ripes.length + l.length) * 16 ≤ 140737488355328) :
    sh_ref_EndConsumer_l2 now l l.length 0 z c = some (now, z, l.foldl (pendC now) c) := by
  rw [sh_ref_EndConsumer_l2]
  refine loop_fold (F := fun s : Int × (List Packet) × Int × Int × Consumer × Consumer => (T_ref_EndConsumer_l2 s.1 s.2.1 s.2.2.1 s.2.2.2.1 s.2.2.2.2.1 s.2.2.2.2.2).run) l default
    (fun i t => (now, l, (l.length : Int), (i : Int), z, t)) (fun i t => t.Ripes.length = c.Ripes.length + i ∧ t.Set.length ≤ 9223372036854775807) (pendC now) (fun t => (now, z, t)) ?_ ?_ c ⟨rfl, hs⟩
  · intro t _
    simp only [T_ref_EndConsumer_l2]; rw [Tr.run_false (by simp), Tr.run_leaf]
  · intro i t hi ht
    obtain ⟨t1, t2⟩ := ht
    have hm := getD_mem (l := l) (k := i) hi default
    obtain ⟨p1, p2⟩ := hp _ hm
    obtain ⟨q1, q2, q3⟩ := pend_done hg _ hm
    have hset := setOf_len (fun v => lastP (l.getD i default).Set v (findP t.Set v))
    refine ⟨?_, by rw [pendC_eq]; simp only [List.length_append, List.length_singleton]; omega, by rw [pendC_eq]; unfold applyP; simp only []; omega⟩
    simp only [T_ref_EndConsumer_l2, Int.toNat_natCast, pl_refApply (a := t.Set) (d := (l.getD i default).Set) t2 (by omega), Option.isSome_some, Option.getD_some]
    rw [Tr.run_true (by simpa using hi), Tr.run_guard ⟨by omega, by rw [sl_len_packets]; omega⟩, Tr.run_guard (by trivial), Tr.run_bind (ref_end_l1 (by omega) q3)]
    simp only []
    rw [Tr.run_guard (by simp only [sl_len_ripes, List.length_singleton, clrAll_eq]; omega), Tr.run_leaf, i64_nat (by omega)]
    rfl

theorem end_l3 {now : Int} {z : Consumer} : ∀ (rs : List Ripe) (c : Consumer), c.Ripes = rs → sh_consumer_End_l3 now c z = some (ripenL now rs c, z)
  | [], c, h => by
    rw [sh_consumer_End_l3]
    refine iter_inr0 ?_
    simp only [T_consumer_End_l3, h]
    rw [Tr.run_guard (by simp), Tr.run_false (by simp), Tr.run_leaf]
    rfl
  | r :: rs, c, h => by
    have hlen : (Sl.len (.ripes (r :: rs))) = rs.length + 1 := rfl
    unfold ripenL
    by_cases hd : r.Due ≤ now
    · rw [if_pos hd]
      by_cases hs : (sayC ⟨2, r.Id, 0, 0, [], []⟩ now c).1 = 0
      · rw [if_neg (by simpa using hs), ← end_l3 rs { (sayC ⟨2, r.Id, 0, 0, [], []⟩ now c).2 with Ripes := rs } rfl, sh_consumer_End_l3, sh_consumer_End_l3]
        refine iter_inl0 ?_
        simp only [T_consumer_End_l3, h, List.getD_cons_zero, hlen, sayC_ripes]
        rw [Tr.run_guard (by intro _; exact ⟨⟨by omega, by omega⟩, trivial⟩), Tr.run_true (by simp [hd]), Tr.run_guard (by omega), Tr.run_bind (pl_say (by simp) (by simp)), Tr.run_false (by simpa using hs)]
        simp only [sayC_ripes, h, hlen]
        rw [Tr.run_guard (by omega), Tr.run_leaf]
        simp only [List.drop_succ_cons, List.drop_zero, Int.toNat_natCast, Nat.add_sub_cancel, List.take_length]
      · rw [if_pos hs, sh_consumer_End_l3]
        refine iter_inr0 ?_
        simp only [T_consumer_End_l3, h, List.getD_cons_zero, hlen]
        rw [Tr.run_guard (by intro _; exact ⟨⟨by omega, by omega⟩, trivial⟩), Tr.run_true (by simp [hd]), Tr.run_guard (by omega), Tr.run_bind (pl_say (by simp) (by simp)), Tr.run_true (by simpa using hs), Tr.run_leaf, sayC_bad hs]
    · rw [if_neg hd, sh_consumer_End_l3]
      refine iter_inr0 ?_
      simp only [T_consumer_End_l3, h, List.getD_cons_zero, hlen]
      rw [Tr.run_guard (by intro _; exact ⟨⟨by omega, by omega⟩, trivial⟩), Tr.run_false (by simp [hd]), Tr.run_leaf]

theorem ref_end_l3 {now : Int} {z : Consumer} : ∀ (rs : List Ripe) (c : Consumer), c.Ripes = rs → FitC 140737488351232 c →
    ∃ r, sh_ref_EndConsumer_l3 now z c = some r ∧ (match r with | .inl y => y = (0, ripenL now rs c) | .inr y => y.2 = ripenL now rs c)
  | [], c, h, hf => by
    refine ⟨.inr (z, c), ?_, rfl⟩
    rw [sh_ref_EndConsumer_l3]
    refine iter_inr0 ?_
    simp only [T_ref_EndConsumer_l3, h]
    rw [Tr.run_guard (by simp), Tr.run_false (by simp), Tr.run_leaf]
  | r :: rs, c, h, hf => by
    have hlen : (Sl.len (.ripes (r :: rs))) = rs.length + 1 := rfl
    have hsay := pl_saying (p := ⟨2, r.Id, 0, 0, [], []⟩) (now := now) hf (by simp) (by simp)
    unfold ripenL
    by_cases hd : r.Due ≤ now
    · rw [if_pos hd]
      by_cases hs : (sayC ⟨2, r.Id, 0, 0, [], []⟩ now c).1 = 0
      · rw [if_neg (by simpa using hs)]
        have hfit := sayC_fit (by omega) (p := ⟨2, r.Id, 0, 0, [], []⟩) (now := now) hf
        have hr := hf.ripes
        rw [h] at hr
        simp only [List.length_cons] at hr
        obtain ⟨y, k1, k2⟩ := ref_end_l3 (now := now) (z := z) rs { (sayC ⟨2, r.Id, 0, 0, [], []⟩ now c).2 with Ripes := rs } rfl ⟨hfit.set, hfit.pend, by simp only []; omega, hfit.said, hfit.due, hfit.ps⟩
        refine ⟨y, ?_, k2⟩
        rw [← k1, sh_ref_EndConsumer_l3, sh_ref_EndConsumer_l3]
        refine iter_inl0 ?_
        simp only [T_ref_EndConsumer_l3, h, List.getD_cons_zero, hlen, hsay, Option.isSome_some, Option.getD_some, sayC_ripes]
        rw [Tr.run_guard (by intro _; exact ⟨⟨by omega, by omega⟩, trivial⟩), Tr.run_true (by simp [hd]), Tr.run_guard (by omega), Tr.run_guard (by trivial), Tr.run_false (by simpa using hs), Tr.run_guard (by omega), Tr.run_leaf]
        simp only [List.drop_succ_cons, List.drop_zero, Int.toNat_natCast, Nat.add_sub_cancel, List.take_length]
      · rw [if_pos hs]
        refine ⟨.inl (0, c), ?_, rfl⟩
        rw [sh_ref_EndConsumer_l3]
        refine iter_inr0 ?_
        simp only [T_ref_EndConsumer_l3, h, List.getD_cons_zero, hlen, hsay, Option.isSome_some, Option.getD_some]
        rw [Tr.run_guard (by intro _; exact ⟨⟨by omega, by omega⟩, trivial⟩), Tr.run_true (by simp [hd]), Tr.run_guard (by omega), Tr.run_guard (by trivial), Tr.run_true (by simpa using hs), Tr.run_leaf]
    · rw [if_neg hd]
      refine ⟨.inr (z, c), ?_, rfl⟩
      rw [sh_ref_EndConsumer_l3]
      refine iter_inr0 ?_
      simp only [T_ref_EndConsumer_l3, h, List.getD_cons_zero, hlen]
      rw [Tr.run_guard (by intro _; exact ⟨⟨by omega, by omega⟩, trivial⟩), Tr.run_false (by simp [hd]), Tr.run_leaf]

theorem goodC_parts {c : Consumer} (h : GoodC c = true) : numsC c ∧ GoodL c.Out ∧ powsOk 1 (-1) c.Set = true ∧ c.Ripes.all ripeOk = true ∧ c.Pending.all pendOk = true := by
  unfold GoodC at h
  simp only [Bool.and_eq_true, decide_eq_true_eq] at h
  exact ⟨h.1.1.1.1, h.1.1.1.2, h.1.1.2, h.1.2, h.2⟩

theorem pl_End {now : Int} {c : Consumer} (h : FitC 140737488351232 c) (hr : (c.Ripes.length + c.Pending.length) * 16 ≤ 140737488355328) : sh_consumer_End c now = some (endC now c) := by
  have e1 := h.set; have e2 := h.pend; have e3 := h.ripes
  rw [sh_consumer_End, T_consumer_End, Tr.run_bind (pl_consGood h)]
  unfold endC
  cases hg : GoodC c with
  | false => rw [Tr.run_true (by rfl), Tr.run_leaf, if_pos rfl]
  | true =>
    obtain ⟨_, _, _, _, hp⟩ := goodC_parts hg
    rw [Tr.run_false (by rfl), if_neg (by simp)]
    cases ho : c.On with
    | false => rw [Tr.run_true (by rfl), Tr.run_leaf, if_pos rfl]
    | true =>
      rw [Tr.run_false (by rfl), if_neg (by simp)]
      by_cases ht : now < c.Time ∨ 1099511627776 < now
      · rw [if_pos ht, Tr.run_true (by simpa using ht), Tr.run_leaf]
      · rw [if_neg ht, Tr.run_false (by simp; omega), Tr.run_bind (pl_cloneRp (by omega))]
        rw [Tr.run_bind (end_l2 (by omega) hp (by simp only []; omega) h.ps (by simp only []; omega))]
        simp only []
        rw [Tr.run_bind (end_l3 _ _ rfl), Tr.run_leaf, ho]

theorem applyP_len (a d : List Power) : (applyP a d).length ≤ 6 := setOf_len _

theorem foldPend {now : Int} {l : List Packet} : ∀ {c : Consumer}, l ≠ [] → (l.foldl (pendC now) c).Set.length ≤ 6 := by
  induction l with
  | nil => intro c h; exact absurd rfl h
  | cons p l ih =>
    intro c _
    rw [List.foldl_cons]
    cases l with
    | nil =>
      rw [List.foldl_nil, pendC_eq]
      show (applyP c.Set p.Set).length ≤ 6
      exact applyP_len _ _
    | cons q l => exact ih (c := pendC now c p) (by simp)

theorem foldPend_parts {now : Int} : ∀ (l : List Packet) (c : Consumer), (l.foldl (pendC now) c).Ripes.length = c.Ripes.length + l.length ∧ (l.foldl (pendC now) c).Out = c.Out ∧ (l.foldl (pendC now) c).On = c.On ∧ (l.foldl (pendC now) c).Gone = c.Gone ∧ (l.foldl (pendC now) c).Height = c.Height ∧ (l.foldl (pendC now) c).Time = c.Time
  | [], c => ⟨rfl, rfl, rfl, rfl, rfl, rfl⟩
  | p :: l, c => by
    rw [List.foldl_cons]
    obtain ⟨h1, h2, h3, h4, h5, h6⟩ := foldPend_parts l (pendC now c p)
    rw [pendC_eq] at h1 h2 h3 h4 h5 h6 ⊢
    refine ⟨?_, h2, h3, h4, h5, h6⟩
    rw [h1]
    show (c.Ripes ++ [(⟨p.Id, IntKind.i64.wrap (now + 15)⟩ : Ripe)]).length + l.length = _
    rw [List.length_append, List.length_singleton, List.length_cons]
    omega

theorem foldPend_fit {now : Int} {c : Consumer} {R : Nat} (hR : 6416 ≤ R) {l : List Packet} (h : FitC R c) (hr : (c.Ripes.length + l.length) * 16 ≤ R) : FitC R { l.foldl (pendC now) c with Pending := [] } := by
  obtain ⟨h1, h2, _⟩ := foldPend_parts (now := now) l c
  refine ⟨?_, by simp, ?_, ?_, ?_, fun p hp => by cases hp⟩
  · by_cases hl : l = []
    · subst hl; exact h.set
    · have := foldPend (now := now) (c := c) hl
      simp only []; omega
  · simp only [h1]; omega
  · simp only [h2]; exact h.said
  · simp only [h2]; exact h.due

theorem pl_refEnd {now : Int} {c : Consumer} (h : FitC 140737488351232 c) (hr : (c.Ripes.length + c.Pending.length) * 16 ≤ 140737488351232) : sh_ref_EndConsumer c now = some (endC now c) := by
  have e1 := h.set; have e2 := h.pend; have e3 := h.ripes
  rw [sh_ref_EndConsumer, T_ref_EndConsumer, Tr.run_bind (pl_refconsGood h)]
  unfold endC
  cases hg : GoodC c with
  | false => rw [Tr.run_true (by rfl), Tr.run_leaf, if_pos rfl]
  | true =>
    obtain ⟨_, _, _, _, hp⟩ := goodC_parts hg
    rw [Tr.run_false (by rfl), if_neg (by simp)]
    cases ho : c.On with
    | false => rw [Tr.run_true (by rfl), Tr.run_leaf, if_pos rfl]
    | true =>
      rw [Tr.run_false (by rfl), if_neg (by simp)]
      by_cases ht : now < c.Time ∨ 1099511627776 < now
      · rw [if_pos ht, Tr.run_true (by simpa using ht), Tr.run_leaf]
      · rw [if_neg ht, Tr.run_false (by simp; omega), Tr.run_bind (pl_copyC_o h)]
        rw [Tr.run_bind (ref_end_l2 (by omega) hp (by simp only []; omega) h.ps (by simp only []; omega))]
        simp only []
        have hf : FitC 140737488351232 { c with Height := IntKind.i64.wrap (c.Height + 1), Time := now } := ⟨h.set, h.pend, h.ripes, h.said, h.due, h.ps⟩
        obtain ⟨r, k1, k2⟩ := ref_end_l3 (now := now) (z := ⟨false, false, 0, 0, 0, [], [], [], ⟨false, false, false, false, false, false⟩, ⟨[], [], 0, false⟩, ⟨0, 0, 0, 0⟩⟩) _ _ rfl (foldPend_fit (now := now) (by omega) hf (l := c.Pending) hr)
        cases r with
        | inl y =>
          rw [Tr.run_inl k1, Tr.run_leaf, k2, ho]
        | inr y => rw [Tr.run_inr k1, Tr.run_leaf, k2, ho]

end Go.Proofs.Ythhdljniheaeoaa.Ab
