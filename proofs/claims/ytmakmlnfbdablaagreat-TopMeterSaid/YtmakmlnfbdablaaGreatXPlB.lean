/-
  The plain lemmas.
-/
import Derived.Test.YtmakmlnfbdablaaGreatXAbInsert
import Derived.Test.YtmakmlnfbdablaaGreatXFBank
import Derived.Test.YtmakmlnfbdablaaGreatXFCodec
import Derived.Test.YtmakmlnfbdablaaGreatXFCons
import Derived.Test.YtmakmlnfbdablaaGreatXFLine
import Derived.Test.YtmakmlnfbdablaaGreatXFProv
import Derived.Test.YtmakmlnfbdablaaGreatXFStakeA
import Derived.Test.YtmakmlnfbdablaaGreatXFStakeB
import Derived.Test.YtmakmlnfbdablaaGreatXFTop
import Derived.Test.YtmakmlnfbdablaaGreatXFWld
import Derived.Test.YtmakmlnfbdablaaGreatXPlA
namespace Go.Proofs.YtmakmlnfbdablaaGreat.Ab
open Go Go.RowKit
set_option linter.unusedVariables false
set_option linter.unusedSimpArgs false
def zsq (l : List Power) (id now : Int) : zb := ⟨true, false, 0, now, id, l, [], [], ⟨false, false, false, false, false, false⟩, ⟨[], [], 0, false⟩, ⟨0, 0, 0, 0⟩⟩
theorem zam5 {l : List Power} {id now : Int} (hl : l.length * 16 ≤ 140737488355328) : zhq l id now = some (zsq l id now) := by
  rw [zhq, zi7, Tr.run_bind (zag0 hl), Tr.run_leaf]; rfl
def zwd (c : zb) (s : List UInt8) : zb × Int :=
  if zj1 c = false then (c, 2) else if c.On = false then (c, 4) else if (zax s).2 ≠ 0 then (c, (zax s).2) else if (zax s).1.Kind ≠ 1 then (c, 3)
  else ({ c with Pending := c.Pending ++ [(zax s).1] }, 0)
theorem zars {c : zb} {a : ByteArray} (h : FitC 140737488351232 c) (ha : a.size ≤ 140737488355328) : zi8 c a = some (zwd c a.data.toList) := by
  have e1 : zff a = some (zax a.data.toList) := zaa9 (s := a.data.toList) (by have : a.data.toList.length = a.size := rfl; omega)
  have e2 := h.pend
  rw [zi8, zkk, Tr.run_bind e1, Tr.run_bind (ztt h)]
  simp only [zag1 (l := c.Pending) (by omega), Option.isSome_some, Option.getD_some]
  unfold zwd
  cases hg : zj1 c with
  | false => rw [Tr.run_true (by rfl), Tr.run_leaf, if_pos rfl]
  | true =>
    rw [Tr.run_false (by rfl), if_neg (by simp)]
    cases ho : c.On with
    | false => rw [Tr.run_true (by rfl), Tr.run_leaf, if_pos rfl]
    | true =>
      rw [Tr.run_false (by rfl), if_neg (by simp)]
      by_cases hd : (zax a.data.toList).2 = 0
      · rw [Tr.run_false (by simpa using hd), if_neg (by simpa using hd)]
        by_cases hk : (zax a.data.toList).1.Kind = 1
        · rw [Tr.run_false (by simpa using hk), if_neg (by simpa using hk), Tr.run_guard (by trivial), Tr.run_guard (by simp only [zgo, List.length_singleton]; omega), Tr.run_leaf]
        · rw [Tr.run_true (by simpa using hk), if_pos hk, Tr.run_leaf]
      · rw [Tr.run_true (by simpa using hd), if_pos hd, Tr.run_leaf]
def zun (p : Packet) (now : Int) (c : zb) : Int × zb :=
  if (zhc p).2 ≠ 0 then ((zhc p).2, c)
  else if (z9a c.Out (zhc p).1 (IntKind.i64.wrap (now + 40))).2 ≠ 0 then ((z9a c.Out (zhc p).1 (IntKind.i64.wrap (now + 40))).2, c)
  else (0, { c with Out := (z9a c.Out (zhc p).1 (IntKind.i64.wrap (now + 40))).1 })
theorem zafg {p : Packet} {now : Int} {c : zb} (h : (zun p now c).1 ≠ 0) : (zun p now c).2 = c := by
  unfold zun at h ⊢
  split
  · rfl
  · split
    · rfl
    · rename_i h1 h2
      rw [if_neg h1, if_neg h2] at h
      exact absurd rfl h
theorem z7l {p : Packet} {now : Int} {c : zb} : (zun p now c).2.Ripes = c.Ripes := by
  unfold zun
  repeat' split
  all_goals rfl
theorem zafh {p : Packet} {now : Int} {c : zb} (h1 : p.Set.length * 16 ≤ 140737488351232) (h2 : p.Done.length * 8 ≤ 140737488351232) : zbm p now c = some (zun p now c) := by
  rw [zbm, zmc, Tr.run_bind (z5a h1 h2)]
  unfold zun
  by_cases he : (zhc p).2 = 0
  · rw [if_neg (by simpa using he), Tr.run_false (by simpa using he), Tr.run_bind (zaom _ _ _)]
    by_cases hs : (z9a c.Out (zhc p).1 (IntKind.i64.wrap (now + 40))).2 = 0
    · rw [if_neg (by simpa using hs), Tr.run_false (by simpa using hs), Tr.run_leaf]
    · rw [if_pos hs, Tr.run_true (by simpa using hs), Tr.run_leaf]
  · rw [if_pos he, Tr.run_true (by simpa using he), Tr.run_leaf]
def clrC (c : zb) (v : Int) : zb := { c with Flags := c.Flags.set v false }
def zabn (c : zb) (l : List Int) : zb := l.foldl clrC c
theorem z5l : ∀ (l : List Int) (c : zb), zabn c l = { c with Flags := l.foldl (fun f v => f.set v false) c.Flags }
  | [], c => rfl
  | v :: l, c => by unfold zabn; rw [List.foldl_cons]; exact (z5l l (clrC c v)).trans rfl
def zsr (now : Int) (c : zb) (p : Packet) : zb :=
  { zabn { c with Set := z2s c.Set p.Set, Id := p.Id } p.Done with Ripes := (zabn { c with Set := z2s c.Set p.Set, Id := p.Id } p.Done).Ripes ++ [⟨p.Id, IntKind.i64.wrap (now + 15)⟩] }
theorem z3k (now : Int) (c : zb) (p : Packet) :
    zsr now c p = { c with Set := z2s c.Set p.Set, Id := p.Id, Flags := p.Done.foldl (fun f v => f.set v false) c.Flags, Ripes := c.Ripes ++ [⟨p.Id, IntKind.i64.wrap (now + 15)⟩] } := by
  unfold zsr; rw [z5l]
def zq4 (now : Int) : List Ripe → zb → zb
  | [], c => c
  | r :: rs, c => if r.Due ≤ now then (if (zun ⟨2, r.Id, 0, 0, [], []⟩ now c).1 ≠ 0 then c else zq4 now rs { (zun ⟨2, r.Id, 0, 0, [], []⟩ now c).2 with Ripes := rs }) else c
def z9s (now : Int) (c : zb) : zb × Int :=
  if zj1 c = false then (c, 2) else if c.On = false then (c, 4) else if now < c.Time ∨ 1099511627776 < now then (c, 2)
  else (zq4 now (c.Pending.foldl (zsr now) { c with Height := IntKind.i64.wrap (c.Height + 1), Time := now }).Ripes { c.Pending.foldl (zsr now) { c with Height := IntKind.i64.wrap (c.Height + 1), Time := now } with Pending := [] }, 0)
theorem zawg {now x2 x3 : Int} {x1 : List Packet} {l : List Int} {c z : zb} {p : Packet} (hl : l.length ≤ 9223372036854775807) (hv : ∀ v, v ∈ l → 0 ≤ v ∧ v ≤ 5) :
    zkl now x1 x2 x3 l l.length 0 c z p = some (now, x1, x2, x3, zabn c l, z, p) := by
  rw [zkl]
  refine zk3 (F := fun s : Int × (List Packet) × Int × Int × (List Int) × Int × Int × zb × zb × Packet => (zfi s.1 s.2.1 s.2.2.1 s.2.2.2.1 s.2.2.2.2.1 s.2.2.2.2.2.1 s.2.2.2.2.2.2.1 s.2.2.2.2.2.2.2.1 s.2.2.2.2.2.2.2.2.1 s.2.2.2.2.2.2.2.2.2).run) l 0
    (fun i t => (now, x1, x2, x3, l, (l.length : Int), (i : Int), t, z, p)) (fun _ _ => True) clrC (fun t => (now, x1, x2, x3, t, z, p)) ?_ ?_ c trivial
  · intro t _
    simp only [zfi]; rw [Tr.run_false (by simp), Tr.run_leaf]
  · intro i t hi _
    have hm := hv _ (zhw (l := l) (k := i) hi 0)
    refine ⟨?_, trivial⟩
    simp only [zfi, Int.toNat_natCast]
    rw [Tr.run_true (by simpa using hi), Tr.run_guard ⟨by omega, by rw [zpu]; omega⟩, Tr.run_guard (by omega), Tr.run_leaf, z5 (by omega)]
    rfl
theorem z5m {l : List Packet} (h : l.all zny = true) : ∀ p, p ∈ l → zez p = 0 ∧ p.Kind = 1 ∧ (∀ v, v ∈ p.Done → 0 ≤ v ∧ v ≤ 5) := by
  intro p hp
  have h1 := List.all_eq_true.1 h p hp
  unfold zny at h1
  simp only [Bool.and_eq_true, beq_iff_eq] at h1
  obtain ⟨g1, g2, g3, g4, g5, g6, g7, g8, g9, g10, _, _⟩ := zlt h1.2
  exact ⟨h1.2, h1.1, zwt g10 (by omega)⟩
theorem zawh {now : Int} {l : List Packet} {c z : zb} (hl : l.length ≤ 9223372036854775807) (hg : l.all zny = true) (hs : c.Set.length ≤ 9223372036854775807)
    (hp : ∀ p, p ∈ l → p.Set.length * 16 ≤ 140737488351232 ∧ p.Done.length * 8 ≤ 140737488351232) (hr : (c.Ripes.length + l.length) * 16 ≤ 140737488355328) :
    zkm now l l.length 0 c z = some (now, l.foldl (zsr now) c, z) := by
  rw [zkm]
  refine zk3 (F := fun s : Int × (List Packet) × Int × Int × zb × zb => (zfj s.1 s.2.1 s.2.2.1 s.2.2.2.1 s.2.2.2.2.1 s.2.2.2.2.2).run) l default
    (fun i t => (now, l, (l.length : Int), (i : Int), t, z)) (fun i t => t.Ripes.length = c.Ripes.length + i ∧ t.Set.length ≤ 9223372036854775807) (zsr now) (fun t => (now, t, z)) ?_ ?_ c ⟨rfl, hs⟩
  · intro t _
    simp only [zfj]; rw [Tr.run_false (by simp), Tr.run_leaf]
  · intro i t hi ht
    obtain ⟨t1, t2⟩ := ht
    have hm := zhw (l := l) (k := i) hi default
    obtain ⟨p1, p2⟩ := hp _ hm
    obtain ⟨q1, q2, q3⟩ := z5m hg _ hm
    have hset := z41 (fun v => zaa3 (l.getD i default).Set v (zee t.Set v))
    refine ⟨?_, by rw [z3k]; simp only [List.length_append, List.length_singleton]; omega, by rw [z3k]; unfold z2s; simp only []; omega⟩
    simp only [zfj, Int.toNat_natCast]
    rw [Tr.run_true (by simpa using hi), Tr.run_guard ⟨by omega, by rw [zgo]; omega⟩, Tr.run_bind (zama t2 (by omega)), Tr.run_bind (zawg (by omega) q3)]
    simp only []
    rw [Tr.run_guard (by simp only [zm6, List.length_singleton, z5l]; omega), Tr.run_leaf, z5 (by omega)]
    rfl
theorem zaop {now : Int} {z : zb} : ∀ (rs : List Ripe) (c : zb), c.Ripes = rs → zb3 now c z = some (zq4 now rs c, z)
  | [], c, h => by
    rw [zb3]
    refine zgk ?_
    simp only [zdv, h]
    rw [Tr.run_guard (by simp), Tr.run_false (by simp), Tr.run_leaf]
    rfl
  | r :: rs, c, h => by
    have hlen : (Sl.len (.ripes (r :: rs))) = rs.length + 1 := rfl
    unfold zq4
    by_cases hd : r.Due ≤ now
    · rw [if_pos hd]
      by_cases hs : (zun ⟨2, r.Id, 0, 0, [], []⟩ now c).1 = 0
      · rw [if_neg (by simpa using hs), ← zaop rs { (zun ⟨2, r.Id, 0, 0, [], []⟩ now c).2 with Ripes := rs } rfl, zb3, zb3]
        refine zb7 ?_
        simp only [zdv, h, List.getD_cons_zero, hlen, z7l]
        rw [Tr.run_guard (by intro _; exact ⟨⟨by omega, by omega⟩, trivial⟩), Tr.run_true (by simp [hd]), Tr.run_guard (by omega), Tr.run_bind (zafh (by simp) (by simp)), Tr.run_false (by simpa using hs)]
        simp only [z7l, h, hlen]
        rw [Tr.run_guard (by omega), Tr.run_leaf]
        simp only [List.drop_succ_cons, List.drop_zero, Int.toNat_natCast, Nat.add_sub_cancel, List.take_length]
      · rw [if_pos hs, zb3]
        refine zgk ?_
        simp only [zdv, h, List.getD_cons_zero, hlen]
        rw [Tr.run_guard (by intro _; exact ⟨⟨by omega, by omega⟩, trivial⟩), Tr.run_true (by simp [hd]), Tr.run_guard (by omega), Tr.run_bind (zafh (by simp) (by simp)), Tr.run_true (by simpa using hs), Tr.run_leaf, zafg hs]
    · rw [if_neg hd, zb3]
      refine zgk ?_
      simp only [zdv, h, List.getD_cons_zero, hlen]
      rw [Tr.run_guard (by intro _; exact ⟨⟨by omega, by omega⟩, trivial⟩), Tr.run_false (by simp [hd]), Tr.run_leaf]
theorem zdm {c : zb} (h : zj1 c = true) : zadr c ∧ zet c.Out ∧ zy 1 (-1) c.Set = true ∧ c.Ripes.all zna = true ∧ c.Pending.all zny = true := by
  unfold zj1 at h
  simp only [Bool.and_eq_true, decide_eq_true_eq] at h
  exact ⟨h.1.1.1.1, h.1.1.1.2, h.1.1.2, h.1.2, h.2⟩
theorem zawi {now : Int} {c : zb} (h : FitC 140737488351232 c) (hr : (c.Ripes.length + c.Pending.length) * 16 ≤ 140737488355328) : zx c now = some (z9s now c) := by
  have e1 := h.set; have e2 := h.pend; have e3 := h.ripes
  rw [zx, zme, Tr.run_bind (ztt h)]
  unfold z9s
  cases hg : zj1 c with
  | false => rw [Tr.run_true (by rfl), Tr.run_leaf, if_pos rfl]
  | true =>
    obtain ⟨_, _, _, _, hp⟩ := zdm hg
    rw [Tr.run_false (by rfl), if_neg (by simp)]
    cases ho : c.On with
    | false => rw [Tr.run_true (by rfl), Tr.run_leaf, if_pos rfl]
    | true =>
      rw [Tr.run_false (by rfl), if_neg (by simp)]
      by_cases ht : now < c.Time ∨ 1099511627776 < now
      · rw [if_pos ht, Tr.run_true (by simpa using ht), Tr.run_leaf]
      · rw [if_neg ht, Tr.run_false (by simp; omega), Tr.run_bind (zag2 (by omega))]
        rw [Tr.run_bind (zawh (by omega) hp (by simp only []; omega) h.ps (by simp only []; omega))]
        simp only []
        rw [Tr.run_bind (zaop _ _ rfl), Tr.run_leaf, ho]
theorem zx8 {now : Int} : ∀ (l : List Packet) (c : zb), (l.foldl (zsr now) c).Ripes.length = c.Ripes.length + l.length ∧ (l.foldl (zsr now) c).Out = c.Out ∧ (l.foldl (zsr now) c).On = c.On ∧ (l.foldl (zsr now) c).Gone = c.Gone ∧ (l.foldl (zsr now) c).Height = c.Height ∧ (l.foldl (zsr now) c).Time = c.Time
  | [], c => ⟨rfl, rfl, rfl, rfl, rfl, rfl⟩
  | p :: l, c => by
    rw [List.foldl_cons]
    obtain ⟨h1, h2, h3, h4, h5, h6⟩ := zx8 l (zsr now c p)
    rw [z3k] at h1 h2 h3 h4 h5 h6 ⊢
    refine ⟨?_, h2, h3, h4, h5, h6⟩
    rw [h1]
    show (c.Ripes ++ [(⟨p.Id, IntKind.i64.wrap (now + 15)⟩ : Ripe)]).length + l.length = _
    rw [List.length_append, List.length_singleton, List.length_cons]
    omega
end Go.Proofs.YtmakmlnfbdablaaGreat.Ab
namespace Go.Proofs.YtmakmlnfbdablaaGreat.Ab
open Go Go.RowKit
set_option linter.unusedVariables false
set_option linter.unusedSimpArgs false
theorem z7m : ∀ {l : List Power} {p v : Int}, zy 1 p l = true → zee l v = 0 ∨ 1 ≤ zee l v
  | [], _, _, _ => .inl rfl
  | a :: l, p, v, h => by
    rw [zy] at h
    simp only [Bool.and_eq_true, decide_eq_true_eq] at h
    unfold zee
    split
    · exact .inr h.1.1.2
    · exact z7m h.2
def z5n (c : zb) (v now : Int) : zb × Int :=
  if zj1 c = false ∨ now < 0 ∨ 1099511627776 < now then (c, 2) else if c.On = false ∨ v < 0 ∨ 5 < v ∨ zee c.Set v = 0 then (c, 4) else if c.Flags.get v = true then (c, 5)
  else if (zun ⟨3, c.Id, v, zee c.Set v, [], []⟩ now c).1 ≠ 0 then (c, (zun ⟨3, c.Id, v, zee c.Set v, [], []⟩ now c).1)
  else ({ (zun ⟨3, c.Id, v, zee c.Set v, [], []⟩ now c).2 with Flags := (zun ⟨3, c.Id, v, zee c.Set v, [], []⟩ now c).2.Flags.set v true }, 0)
theorem zart {c : zb} {v now : Int} (h : FitC 140737488351232 c) : zeh c v now = some (z5n c v now) := by
  have e1 := h.set
  have hsay := fun n => zafh (p := ⟨3, c.Id, v, n, [], []⟩) (now := now) (c := c) (by simp) (by simp)
  rw [zeh, zkn, Tr.run_bind (ztt h)]
  simp only [zaff (l := c.Set) (v := v) (by omega), hsay, Option.isSome_some, Option.getD_some]
  unfold z5n
  by_cases h1 : zj1 c = false ∨ now < 0 ∨ 1099511627776 < now
  · rw [if_pos h1, Tr.run_true (by simpa [or_assoc] using h1), Tr.run_leaf]
  · rw [if_neg h1, Tr.run_false (by rw [Bool.eq_false_iff]; intro k; apply h1; simpa [or_assoc] using k), Tr.run_guard (by simp)]
    by_cases h2 : c.On = false ∨ v < 0 ∨ 5 < v ∨ zee c.Set v = 0
    · rw [if_pos h2, Tr.run_true (by
        simp only [Bool.or_eq_true, Bool.not_eq_true', decide_eq_true_eq, beq_iff_eq]
        rcases h2 with h2 | h2 | h2 | h2
        · exact .inl (.inl (.inl h2))
        · exact .inl (.inl (.inr h2))
        · exact .inl (.inr (by omega))
        · exact .inr h2), Tr.run_leaf]
    · simp only [not_or] at h2
      rw [if_neg (by simp only [not_or]; exact h2), Tr.run_false (by
        simp only [Bool.or_eq_false_iff, Bool.not_eq_false', decide_eq_false_iff_not, beq_eq_false_iff_ne]
        exact ⟨⟨⟨by simpa using h2.1, h2.2.1⟩, by omega⟩, h2.2.2.2⟩), Tr.run_guard (by omega)]
      by_cases h3 : c.Flags.get v = true
      · rw [if_pos h3, Tr.run_true h3, Tr.run_leaf]
      · rw [if_neg h3, Tr.run_false (by simpa using h3), Tr.run_guard (by trivial), Tr.run_guard (by trivial)]
        by_cases h4 : (zun ⟨3, c.Id, v, zee c.Set v, [], []⟩ now c).1 = 0
        · rw [if_neg (by simpa using h4), Tr.run_false (by simpa using h4), Tr.run_guard (by omega), Tr.run_leaf]
        · rw [if_pos h4, Tr.run_true (by simpa using h4), Tr.run_leaf, zafg h4]
def maxC (c : zb) (v : Int) : Int := if zee c.Set v = 0 then 1 else zee c.Set v
def zrl (c : zb) (v id now : Int) : zb × Int :=
  if zj1 c = false ∨ now < 0 ∨ 1099511627776 < now then (c, 2) else if c.On = false ∨ v < 0 ∨ 5 < v then (c, 4) else if id < 1 ∨ c.Id < id then (c, 2)
  else ((zun ⟨4, id, v, maxC c v, [], []⟩ now c).2, (zun ⟨4, id, v, maxC c v, [], []⟩ now c).1)
theorem zaj6 {c : zb} {v id now : Int} (h : FitC 140737488351232 c) : zdf c v id now = some (zrl c v id now) := by
  have e1 := h.set
  rw [zdf, zhr, Tr.run_bind (ztt h)]
  unfold zrl
  by_cases h1 : zj1 c = false ∨ now < 0 ∨ 1099511627776 < now
  · rw [if_pos h1, Tr.run_true (by simpa [or_assoc] using h1), Tr.run_leaf]
  · rw [if_neg h1, Tr.run_false (by rw [Bool.eq_false_iff]; intro k; apply h1; simpa [or_assoc] using k)]
    by_cases h2 : c.On = false ∨ v < 0 ∨ 5 < v
    · rw [if_pos h2, Tr.run_true (by
        simp only [Bool.or_eq_true, Bool.not_eq_true', decide_eq_true_eq]
        rcases h2 with h2 | h2 | h2
        · exact .inl (.inl h2)
        · exact .inl (.inr h2)
        · exact .inr (by omega)), Tr.run_leaf]
    · simp only [not_or] at h2
      rw [if_neg (by simp only [not_or]; exact h2), Tr.run_false (by
        simp only [Bool.or_eq_false_iff, Bool.not_eq_false', decide_eq_false_iff_not]
        exact ⟨⟨by simpa using h2.1, h2.2.1⟩, by omega⟩)]
      by_cases h3 : id < 1 ∨ c.Id < id
      · rw [if_pos h3, Tr.run_true (by simpa using h3), Tr.run_leaf]
      · have hg : zj1 c = true := by simp only [not_or] at h1; simpa using h1.1
        have hf := z7m (v := v) (zdm hg).2.2.1
        have hm : (if zee c.Set v > 1 then zee c.Set v else 1) = maxC c v := by
          unfold maxC
          rcases hf with hf | hf
          · rw [if_neg (by omega), if_pos hf]
          · rw [if_neg (show ¬ zee c.Set v = 0 by omega)]
            split <;> omega
        rw [if_neg h3, Tr.run_false (by simp; omega), Tr.run_bind (zaff (by omega)), hm, Tr.run_bind (zafh (by simp) (by simp))]
        by_cases h4 : (zun ⟨4, id, v, maxC c v, [], []⟩ now c).1 = 0
        · rw [Tr.run_false (by simpa using h4), Tr.run_leaf, h4]
        · rw [Tr.run_true (by simpa using h4), Tr.run_leaf]
def zzd (c : zb) : zb := if c.On = false then c else { c with On := false, Gone := true, Out := { c.Out with Closed := true } }
theorem zabo {c : zb} : zgw c = some (zzd c) := by
  rw [zgw, zhs]
  unfold zzd
  cases ho : c.On with
  | false => rw [Tr.run_true (by rfl), Tr.run_leaf, if_pos rfl]
  | true => rw [Tr.run_false (by rfl), Tr.run_leaf, if_neg (by simp)]
end Go.Proofs.YtmakmlnfbdablaaGreat.Ab
namespace Go.Proofs.YtmakmlnfbdablaaGreat.Ab
open Go Go.RowKit
set_option linter.unusedVariables false
set_option linter.unusedSimpArgs false
theorem zads {l : ze0} {s : ByteArray} {u : Int} (h : (z9a l s u).2 = 0) : zet l ∧ 0 ≤ u ∧ l.Closed = false ∧ l.Said.length < 400 ∧ z9a l s u = ({ l with Said := l.Said ++ [s], Due := l.Due ++ [u] }, 0) := by
  unfold z9a at h ⊢
  by_cases h1 : ¬ zet l ∨ u < 0
  · rw [if_pos h1] at h; cases h
  · rw [if_neg h1] at h ⊢
    simp only [not_or, Classical.not_not] at h1
    by_cases h2 : l.Closed = true
    · rw [if_pos h2] at h; cases h
    · rw [if_neg h2] at h ⊢
      by_cases h3 : 400 ≤ l.Said.length
      · rw [if_pos h3] at h; cases h
      · rw [if_neg h3]
        exact ⟨h1.1, by omega, by simpa using h2, by omega, rfl⟩
theorem zam7 {l : ze0} {s : ByteArray} {u : Int} (h1 : zet l) (h2 : 0 ≤ u) (h3 : l.Closed = false) (h4 : l.Said.length < 400) : z9a l s u = ({ l with Said := l.Said ++ [s], Due := l.Due ++ [u] }, 0) := by
  unfold z9a
  rw [if_neg (by simp only [not_or, Classical.not_not]; exact ⟨h1, by omega⟩), if_neg (by rw [h3]; simp), if_neg (by omega)]
theorem z7n {l : ze0} {s : ByteArray} {u : Int} (h1 : zet l) (h2 : 0 ≤ u) (h4 : l.Said.length < 400) : zet { l with Said := l.Said ++ [s], Due := l.Due ++ [u] } := by
  obtain ⟨g1, g2, g3, g4, g5⟩ := h1
  refine ⟨by simp [g1], by simp only [List.length_append, List.length_singleton]; omega, g3, by simp only [List.length_append, List.length_singleton]; omega, ?_⟩
  simp only [List.any_append, g5, Bool.false_or, List.any_cons, List.any_nil, Bool.or_false, decide_eq_false_iff_not]
  omega
theorem zaj7 {p : Packet} {now : Int} {c : zb} (h : (zun p now c).1 = 0) : zez p = 0 ∧ (z9a c.Out (txt (zsk p)) (IntKind.i64.wrap (now + 40))).2 = 0 ∧
    zun p now c = (0, { c with Out := { c.Out with Said := c.Out.Said ++ [txt (zsk p)], Due := c.Out.Due ++ [IntKind.i64.wrap (now + 40)] } }) := by
  have hg : zez p = 0 := by
    refine Classical.byContradiction fun hn => ?_
    unfold zun at h
    rw [zadd hn, if_pos hn] at h
    exact hn h
  unfold zun at h ⊢
  rw [zm7 hg, if_neg (by simp)] at h ⊢
  simp only at h ⊢
  by_cases hs : (z9a c.Out (txt (zsk p)) (IntKind.i64.wrap (now + 40))).2 = 0
  · rw [if_neg (by simpa using hs), (zads hs).2.2.2.2]
    exact ⟨hg, rfl, rfl⟩
  · rw [if_pos hs] at h
    exact absurd h hs
theorem zam8 {p : Packet} {now : Int} {c : zb} (hg : zez p = 0) (h1 : zet c.Out) (h2 : 0 ≤ IntKind.i64.wrap (now + 40)) (h3 : c.Out.Closed = false) (h4 : c.Out.Said.length < 400) :
    zun p now c = (0, { c with Out := { c.Out with Said := c.Out.Said ++ [txt (zsk p)], Due := c.Out.Due ++ [IntKind.i64.wrap (now + 40)] } }) := by
  unfold zun
  rw [zm7 hg, if_neg (by simp)]
  simp only
  rw [zam7 h1 h2 h3 h4, if_neg (by simp)]
theorem zq5 {c : zb} (h1 : zadr c) (h2 : zet c.Out) (h3 : zy 1 (-1) c.Set = true) (h4 : c.Ripes.all zna = true) (h5 : c.Pending.all zny = true) : zj1 c = true := by
  unfold zj1
  rw [decide_eq_true h1, decide_eq_true h2, h3, h4, h5]; rfl
theorem zam9 {now : Int} {c : zb} (h1 : zj1 c = true) (h2 : c.On = true) (h3 : c.Time ≤ now) (h4 : now ≤ 1099511627776) :
    z9s now c = (zq4 now (c.Pending.foldl (zsr now) { c with Height := IntKind.i64.wrap (c.Height + 1), Time := now }).Ripes { c.Pending.foldl (zsr now) { c with Height := IntKind.i64.wrap (c.Height + 1), Time := now } with Pending := [] }, 0) := by
  unfold z9s
  rw [if_neg (by rw [h1]; simp), if_neg (by rw [h2]; simp), if_neg (by omega)]
theorem zafi {c : zb} {v now : Int} (h : (z5n c v now).2 = 0) : zj1 c = true ∧ 0 ≤ now ∧ now ≤ 1099511627776 ∧ c.On = true ∧ 0 ≤ v ∧ v ≤ 5 ∧ zee c.Set v ≠ 0 ∧ (zun ⟨3, c.Id, v, zee c.Set v, [], []⟩ now c).1 = 0 ∧
    z5n c v now = ({ (zun ⟨3, c.Id, v, zee c.Set v, [], []⟩ now c).2 with Flags := (zun ⟨3, c.Id, v, zee c.Set v, [], []⟩ now c).2.Flags.set v true }, 0) := by
  unfold z5n at h ⊢
  by_cases h1 : zj1 c = false ∨ now < 0 ∨ 1099511627776 < now
  · rw [if_pos h1] at h; cases h
  · rw [if_neg h1] at h ⊢
    by_cases h2 : c.On = false ∨ v < 0 ∨ 5 < v ∨ zee c.Set v = 0
    · rw [if_pos h2] at h; cases h
    · rw [if_neg h2] at h ⊢
      by_cases h3 : c.Flags.get v = true
      · rw [if_pos h3] at h; cases h
      · rw [if_neg h3] at h ⊢
        by_cases h4 : (zun ⟨3, c.Id, v, zee c.Set v, [], []⟩ now c).1 = 0
        · rw [if_neg (by simpa using h4)]
          simp only [not_or] at h1 h2
          exact ⟨by simpa using h1.1, by omega, by omega, by simpa using h2.1, by omega, by omega, h2.2.2.2, h4, rfl⟩
        · rw [if_pos h4] at h
          exact absurd h h4
end Go.Proofs.YtmakmlnfbdablaaGreat.Ab
namespace Go.Proofs.YtmakmlnfbdablaaGreat.Ab
open Go Go.RowKit
set_option linter.unusedVariables false
set_option linter.unusedSimpArgs false
theorem z5o : zet ⟨[], [], 0, false⟩ := ⟨rfl, by decide, by decide, by decide, by decide⟩
theorem zaj8 {id : Int} (h1 : 1 ≤ id) (h2 : id ≤ 1099511627776) : zez ⟨2, id, 0, 0, [], []⟩ = 0 := by
  unfold zez
  rw [if_neg (by simp), if_neg (by simp; omega), if_neg (by simp), if_neg (by simp [zy]), if_neg (by simp [zan])]
end Go.Proofs.YtmakmlnfbdablaaGreat.Ab
namespace Go.Proofs.YtmakmlnfbdablaaGreat.Ab
open Go Go.RowKit
set_option linter.unusedVariables false
set_option linter.unusedSimpArgs false
theorem zadt {m p q : Int} {l : List Power} (h : zy m q l = true) (hp : p ≤ q) : zy m p l = true := by
  cases l with
  | nil => rfl
  | cons a l =>
    simp only [zy, Bool.and_eq_true, decide_eq_true_eq] at h ⊢
    exact ⟨⟨⟨⟨by omega, h.1.1.1.2⟩, h.1.1.2⟩, h.1.2⟩, h.2⟩
theorem zo0 {m p w n : Int} {s l : List Power} (hs : s = [] ∨ (s = [⟨w, n⟩] ∧ m ≤ n ∧ n ≤ 1125899906842624)) (hp : p < w) (hw : w ≤ 5) (hl : zy m w l = true) : zy m p (s ++ l) = true := by
  rcases hs with rfl | ⟨rfl, h1, h2⟩
  · exact zadt hl (by omega)
  · simp only [List.cons_append, List.nil_append, zy, Bool.and_eq_true, decide_eq_true_eq]
    exact ⟨⟨⟨⟨hp, hw⟩, h1⟩, h2⟩, hl⟩
theorem z1v {w n : Int} (h : n ≤ 1125899906842624) : z0y w n = [] ∨ (z0y w n = [⟨w, n⟩] ∧ (1 : Int) ≤ n ∧ n ≤ 1125899906842624) := by
  unfold z0y
  by_cases hn : 0 < n
  · rw [if_pos hn]; exact .inr ⟨rfl, by omega, h⟩
  · rw [if_neg hn]; exact .inl rfl
theorem zana {f : Nat → Int} (h : ∀ v, f v ≤ 1125899906842624) : zy 1 (-1) (zk9 f) = true := by
  rw [z89]
  exact zo0 (z1v (h 0)) (by omega) (by omega) (zo0 (z1v (h 1)) (by omega) (by omega) (zo0 (z1v (h 2)) (by omega) (by omega) (zo0 (z1v (h 3)) (by omega) (by omega)
    (zo0 (z1v (h 4)) (by omega) (by omega) (zo0 (z1v (h 5)) (by omega) (by omega) rfl)))))
end Go.Proofs.YtmakmlnfbdablaaGreat.Ab
namespace Go.Proofs.YtmakmlnfbdablaaGreat.Ab
open Go Go.RowKit
set_option linter.unusedVariables false
set_option linter.unusedSimpArgs false
abbrev zi2 (L : Links) (c : Int) : ze0 := ⟨L.Said.get c, L.Due.get c, L.Got.get c, L.Closed.get c⟩
def okLk (p : za) (c : Int) : Bool := !(p.Links.On.get c && p.Links.Gone.get c) && decide (0 ≤ p.Links.Base.get c) && decide (p.Links.Base.get c ≤ p.Height) && zy 1 (-1) (p.Links.Told.get c) && decide (zet (zi2 p.Links c)) && zan (-1) (p.Links.Done.get c)
def zxb (p : za) (a : Asked) : Bool := decide (0 ≤ a.C) && decide (a.C < 2) && p.Links.On.get a.C && (zez a.P == 0) && !(a.P.Kind == 1)
def z2v (p : za) : Prop := 0 ≤ p.Height ∧ p.Height < 1099511627776 ∧ 0 ≤ p.Time ∧ p.Time ≤ 1099511627776
instance (p : za) : Decidable (z2v p) := inferInstanceAs (Decidable (_ ∧ _))
def zal (p : za) : Bool := decide (GoodS p.Stake) && decide (z2v p) && zy 1 (-1) p.Set && okLk p 0 && okLk p 1 && p.Queue.all (zxb p)
structure FitPr (R : Nat) (p : za) : Prop where
  waits : p.Stake.Waits.length * 64 ≤ R
  set : p.Set.length * 16 ≤ R
  told : ∀ c, (p.Links.Told.get c).length * 16 ≤ R
  done : ∀ c, (p.Links.Done.get c).length * 8 ≤ R
  said : ∀ c, (p.Links.Said.get c).length * 16 ≤ R
  due : ∀ c, (p.Links.Due.get c).length * 8 ≤ R
  queue : p.Queue.length * 88 ≤ R
  ps : ∀ a, a ∈ p.Queue → a.P.Set.length * 16 ≤ R ∧ a.P.Done.length * 8 ≤ R
theorem FitPr.mono {R S : Nat} {p : za} (h : FitPr R p) (hr : R ≤ S) : FitPr S p :=
  ⟨Nat.le_trans h.waits hr, Nat.le_trans h.set hr, fun c => Nat.le_trans (h.told c) hr, fun c => Nat.le_trans (h.done c) hr, fun c => Nat.le_trans (h.said c) hr, fun c => Nat.le_trans (h.due c) hr, Nat.le_trans h.queue hr,
    fun a ha => ⟨Nat.le_trans (h.ps a ha).1 hr, Nat.le_trans (h.ps a ha).2 hr⟩⟩
theorem zaj9 {L : Links} {c : Int} {p : za} {k : Link} {l : List Int} (hp : k.Done = l) (hl : l.length ≤ 9223372036854775807) :
    ∃ r, zpl L c l l.length 0 p k = some r ∧ (match r with | .inl b => b = false ∧ zan (-1) l = false | .inr x => x = (L, c, p) ∧ zan (-1) l = true) := by
  have := zs0 (F := fun s : Links × Int × (List Int) × Int × Int × za × Link => (zgx s.1 s.2.1 s.2.2.1 s.2.2.2.1 s.2.2.2.2.1 s.2.2.2.2.2.1 s.2.2.2.2.2.2).run)
    (fun s => s.1 = L ∧ s.2.1 = c ∧ s.2.2.1 = l ∧ s.2.2.2.1 = l.length ∧ 0 ≤ s.2.2.2.2.1 ∧ s.2.2.2.2.1 ≤ l.length ∧ s.2.2.2.2.2.1 = p ∧ s.2.2.2.2.2.2 = k ∧ (0 < s.2.2.2.2.1 → 0 ≤ zou l s.2.2.2.2.1)) (fun s => l.length - s.2.2.2.2.1.toNat)
    (fun s r => match r with | .inl b => b = false ∧ zan (zou l s.2.2.2.2.1) (l.drop s.2.2.2.2.1.toNat) = false | .inr x => x = (L, c, p) ∧ zan (zou l s.2.2.2.2.1) (l.drop s.2.2.2.2.1.toNat) = true) ?_ (L, c, l, (l.length : Int), 0, p, k) ⟨rfl, rfl, rfl, rfl, by simp, by simp, rfl, rfl, by simp⟩
  · exact this
  · rintro ⟨y0, y1, x0, x1, x2, x3, x4⟩ ⟨g1, g2, h1, h2, h3, h4, h5, g3, h6⟩
    simp only at g1 g2 g3 h1 h2 h3 h4 h5 h6
    rw [g1, g2, g3, h1, h2, h5] at *
    simp only [zgx, hp]
    by_cases hc : x2 < l.length
    · have hs := zbp (l := l) (k := x2.toNat) (by omega) 0
      rw [Tr.run_true (by simpa using hc), Tr.run_guard ⟨h3, hc⟩, Tr.run_guard (by
        intro h _
        simp only [decide_eq_true_eq] at h
        rw [zj (x := x2 - 1) (by omega) (by omega)]
        exact ⟨⟨by omega, by simp only [Sl.len]; omega⟩, trivial⟩)]
      rw [hs]
      have hp : (decide (x2 > 0) && decide (l.getD (IntKind.i64.wrap (x2 - 1)).toNat 0 ≥ l.getD x2.toNat 0)) = (decide (x2 > 0) && decide (zou l x2 ≥ l.getD x2.toNat 0)) := by
        by_cases h0 : x2 > 0
        · rw [zj (x := x2 - 1) (by omega) (by omega)]
          unfold zou
          rw [if_neg (by omega)]
        · simp [h0]
      rw [hp]
      generalize hq : l.getD x2.toNat 0 = q at *
      by_cases hd : zou l x2 < q ∧ q ≤ 5
      · obtain ⟨d1, d2⟩ := hd
        have hw : IntKind.i64.wrap (x2 + 1) = x2 + 1 := zj (by omega) (by omega)
        have hpv : zou l (x2 + 1) = q := by unfold zou; rw [if_neg (by omega), show x2 + 1 - 1 = x2 by omega, hq]
        have hq0 : 0 ≤ q := by
          by_cases h0 : x2 > 0
          · have := h6 h0; omega
          · have : zou l x2 = -1 := by unfold zou; rw [if_pos (by omega)]
            omega
        refine .inl ⟨_, by rw [Tr.run_false (by simp; omega), Tr.run_leaf, hw], ⟨rfl, rfl, rfl, rfl, ?_, ?_, rfl, rfl, ?_⟩, ?_, ?_⟩
        · simp only []; omega
        · simp only []; omega
        · simp only []; rw [hpv]; intro _; omega
        · simp only []; omega
        · simp only []
          rw [hpv, show (x2 + 1).toNat = x2.toNat + 1 by omega]
          intro r hr
          rw [zan, decide_eq_true d1, decide_eq_true d2]
          simpa using hr
      · refine .inr ⟨_, by rw [Tr.run_true (by
          by_cases h0 : x2 > 0
          · have := h6 h0
            simp [h0]; omega
          · have : zou l x2 = -1 := by unfold zou; rw [if_pos (by omega)]
            simp [h0]; omega), Tr.run_leaf], ?_⟩
        refine ⟨rfl, ?_⟩
        rw [zan]
        simp only [Bool.and_eq_false_iff, decide_eq_false_iff_not]
        omega
    · refine .inr ⟨_, by rw [Tr.run_false (by simpa using hc), Tr.run_leaf], ?_⟩
      refine ⟨rfl, ?_⟩
      rw [List.drop_eq_nil_of_le (by omega)]; rfl
theorem zanb {l : List Power} (hl : l.length ≤ 9223372036854775807) :
    ∃ r, zqx l l l.length 0 = some r ∧ (match r with | .inl b => b = false ∧ zy 1 (-1) l = false | .inr x => zy 1 (-1) l = true) := by
  have := zs0 (F := fun s : (List Power) × (List Power) × Int × Int => (zht s.1 s.2.1 s.2.2.1 s.2.2.2).run)
    (fun s => s.1 = l ∧ s.2.1 = l ∧ s.2.2.1 = l.length ∧ 0 ≤ s.2.2.2 ∧ s.2.2.2 ≤ l.length ∧ -1 ≤ zg0 l s.2.2.2 ∧ (0 < s.2.2.2 → 0 ≤ zg0 l s.2.2.2)) (fun s => l.length - s.2.2.2.toNat)
    (fun s r => match r with | .inl b => b = false ∧ zy 1 (zg0 l s.2.2.2) (l.drop s.2.2.2.toNat) = false | .inr x => zy 1 (zg0 l s.2.2.2) (l.drop s.2.2.2.toNat) = true) ?_ (l, l, (l.length : Int), 0) ⟨rfl, rfl, rfl, by simp, by simp, by simp [zg0], by simp⟩
  · exact this
  · rintro ⟨y0, x0, x1, x2⟩ ⟨g1, h1, h2, h3, h4, h6, h7⟩
    simp only at g1 h1 h2 h3 h4 h6 h7
    rw [g1, h1, h2] at *
    simp only [zht]
    by_cases hc : x2 < l.length
    · have hs := zbp (l := l) (k := x2.toNat) (by omega) default
      rw [Tr.run_true (by simpa using hc), Tr.run_guard ⟨h3, hc⟩, Tr.run_guard (by
        intro h _
        simp only [decide_eq_true_eq] at h
        rw [zj (x := x2 - 1) (by omega) (by omega)]
        exact ⟨⟨by omega, by simp only [Sl.len]; omega⟩, trivial⟩)]
      rw [hs]
      have hp : (decide (x2 > 0) && decide ((l.getD (IntKind.i64.wrap (x2 - 1)).toNat default).V ≥ (l.getD x2.toNat default).V)) = (decide (x2 > 0) && decide (zg0 l x2 ≥ (l.getD x2.toNat default).V)) := by
        by_cases h0 : x2 > 0
        · rw [zj (x := x2 - 1) (by omega) (by omega)]
          unfold zg0
          rw [if_neg (by omega)]
        · simp [h0]
      rw [hp]
      generalize hq : l.getD x2.toNat default = q at *
      by_cases hd : zg0 l x2 < q.V ∧ q.V ≤ 5 ∧ 1 ≤ q.N ∧ q.N ≤ 1125899906842624
      · obtain ⟨d1, d2, d3, d4⟩ := hd
        have hw : IntKind.i64.wrap (x2 + 1) = x2 + 1 := zj (by omega) (by omega)
        have hpv : zg0 l (x2 + 1) = q.V := by unfold zg0; rw [if_neg (by omega), show x2 + 1 - 1 = x2 by omega, hq]
        refine .inl ⟨_, by rw [Tr.run_false (by simp; omega), Tr.run_leaf, hw], ⟨rfl, rfl, rfl, ?_, ?_, ?_, ?_⟩, ?_, ?_⟩
        · simp only []; omega
        · simp only []; omega
        · simp only []; rw [hpv]; omega
        · simp only []; rw [hpv]; intro _; omega
        · simp only []; omega
        · simp only []
          rw [hpv, show (x2 + 1).toNat = x2.toNat + 1 by omega]
          intro r hr
          rw [zy, decide_eq_true d1, decide_eq_true d2, decide_eq_true d3, decide_eq_true d4]
          simpa using hr
      · refine .inr ⟨_, by rw [Tr.run_true (by
          by_cases h0 : x2 > 0
          · have := h7 h0
            simp [h0]; omega
          · have : zg0 l x2 = -1 := by unfold zg0; rw [if_pos (by omega)]
            simp [h0]; omega), Tr.run_leaf], ?_⟩
        refine ⟨rfl, ?_⟩
        rw [zy]
        simp only [Bool.and_eq_false_iff, decide_eq_false_iff_not]
        omega
    · refine .inr ⟨_, by rw [Tr.run_false (by simpa using hc), Tr.run_leaf], ?_⟩
      rw [List.drop_eq_nil_of_le (by omega)]; rfl
theorem zwz {l : List Power} (hl : l.length ≤ 9223372036854775807) : zdz l = some (zy 1 (-1) l) := by
  obtain ⟨r, h1, h2⟩ := zanb hl
  rw [zdz, zmg]
  cases r with
  | inl b => rw [Tr.run_inl h1, Tr.run_leaf, h2.1, h2.2]
  | inr x => rw [Tr.run_inr h1, Tr.run_leaf, h2]
theorem zawj {p : za} {a : Asked} (h : a.P.Set.length * 16 ≤ 140737488351232 ∧ a.P.Done.length * 8 ≤ 140737488351232) : zkp a p = some (!zxb p a, p) := by
  rw [zkp, zhu, Tr.run_guard (by
    intro h0
    simp only [Bool.or_eq_false_iff, decide_eq_false_iff_not] at h0
    exact ⟨⟨by omega, by omega⟩, trivial⟩), Tr.run_guard (fun _ => ⟨by rw [z0z h.1 h.2]; rfl, trivial⟩), Tr.run_leaf, z0z h.1 h.2]
  congr 2
  unfold zxb
  simp only [Option.getD_some]
  have e1 : decide (a.C < 0) = !decide (0 ≤ a.C) := by rw [← decide_not]; congr 1; exact propext ⟨fun h => by omega, fun h => by omega⟩
  have e2 : decide (a.C ≥ 2) = !decide (a.C < 2) := by rw [← decide_not]; congr 1; exact propext ⟨fun h => by omega, fun h => by omega⟩
  rw [e1, e2]
  simp only [Bool.not_and, Bool.not_not]
  rfl
theorem zaru {l : List Asked} {p : za} (hl : l.length ≤ 9223372036854775807) (hp : ∀ a, a ∈ l → a.P.Set.length * 16 ≤ 140737488351232 ∧ a.P.Done.length * 8 ≤ 140737488351232) :
    zcg l p = some (!l.all (zxb p), p) := by
  obtain ⟨r, h1, h2⟩ := zhb (F := fun s : (List Asked) × Int × Int × za => (zac s.1 s.2.1 s.2.2.1 s.2.2.2).run) l.length
    (fun i (_ : Unit) => (l, (l.length : Int), (i : Int), p)) (fun i _ => True) (fun i _ r => match r with | .inl k => (0 ≤ k.1 ∧ k.2 = p) ∧ (l.drop i).all (zxb p) = false | .inr q => q = p ∧ (l.drop i).all (zxb p) = true) (by
      intro t _
      refine ⟨.inr p, ?_, rfl, ?_⟩
      · simp only [zac]; rw [Tr.run_false (by simp), Tr.run_leaf]
      · rw [List.drop_length]; rfl) (by
      intro i t hi _
      have hs := zbp (l := l) (k := i) hi default
      have hm := zhw (l := l) (k := i) hi default
      simp only [zac, Int.toNat_natCast]
      rw [Tr.run_true (by simpa using hi), Tr.run_guard ⟨by omega, by show (i : Int) < (l.length : Nat); omega⟩, Tr.run_bind (zawj (hp _ hm)), hs]
      simp only [List.all_cons]
      obtain ⟨b, hb⟩ : ∃ b, b = zxb p (l.getD i default) := ⟨_, rfl⟩
      rw [← hb]
      cases b with
      | true =>
        refine .inl ⟨(), ?_, trivial, ?_⟩
        · rw [Tr.run_false (show (!true) = false from rfl), Tr.run_leaf, z5 (by omega)]
        · intro r hr
          cases r with
          | inl x => exact ⟨hr.1, by rw [hr.2]; rfl⟩
          | inr x => rw [Bool.true_and]; exact hr
      | false =>
        refine .inr ⟨.inl (i, p), ?_, ⟨by simp only []; omega, rfl⟩, by rfl⟩
        rw [Tr.run_true (show (!false) = true from rfl), Tr.run_leaf]) 0 () (by omega) trivial
  have h1 : zd7 l l.length 0 p = some r := h1
  rw [zcg, zbe]
  cases r with
  | inl k =>
    simp only [List.drop_zero] at h2
    rw [Tr.run_bind (v := k) (by rw [zcl, zam, Tr.run_inl h1, Tr.run_leaf]), Tr.run_leaf, h2.2, h2.1.2]
    simp [h2.1.1]
  | inr k =>
    simp only [List.drop_zero] at h2
    rw [Tr.run_bind (v := (-1, k)) (by rw [zcl, zam, Tr.run_inr h1, Tr.run_leaf]), Tr.run_leaf, h2.2, h2.1]
    rfl
theorem za5n (x y b c d e : Bool) : (((((x && y) || !b) || !c) || !d) || !e) = !(!(x && y) && b && c && d && e) := by
  cases x <;> cases y <;> cases b <;> cases c <;> cases d <;> cases e <;> rfl
theorem zabq {p : za} (hf : FitPr 140737488351232 p) {c : Nat} (hc : c < 2) :
    (zdg p.Links c p).run = some (if okLk p c = true then .inl (p.Links, ((c + 1 : Nat) : Int), p) else .inr (.inl false)) := by
  simp only [zdg]
  have ht := hf.told c
  have hd := hf.done c
  rw [Tr.run_true (by simp; omega), Tr.run_guard ⟨by omega, by omega⟩, Tr.run_guard (fun _ => ⟨by rw [zwz (by omega)]; rfl, trivial⟩), Tr.run_guard (fun _ => ⟨by rw [z1o]; rfl, trivial⟩), zwz (by omega), z1o]
  simp only [Option.getD_some]
  have e : ((((((p.Links.On.get (c : Int)) && (p.Links.Gone.get (c : Int))) || (decide ((p.Links.Base.get (c : Int)) < 0))) || (decide ((p.Links.Base.get (c : Int)) > p.Height))) || (!zy 1 (-1) (p.Links.Told.get (c : Int)))) || (!decide (zet (zi2 p.Links c)))) =
      !(!(p.Links.On.get (c : Int) && p.Links.Gone.get (c : Int)) && decide (0 ≤ p.Links.Base.get (c : Int)) && decide (p.Links.Base.get (c : Int) ≤ p.Height) && zy 1 (-1) (p.Links.Told.get (c : Int)) && decide (zet (zi2 p.Links c))) := by
    have e1 : decide (p.Links.Base.get (c : Int) < 0) = !decide (0 ≤ p.Links.Base.get (c : Int)) := by rw [← decide_not]; congr 1; exact propext ⟨fun h => by omega, fun h => by omega⟩
    have e2 : decide (p.Links.Base.get (c : Int) > p.Height) = !decide (p.Links.Base.get (c : Int) ≤ p.Height) := by rw [← decide_not]; congr 1; exact propext ⟨fun h => by omega, fun h => by omega⟩
    rw [e1, e2]
    exact za5n _ _ _ _ _ _
  rw [show zi2 p.Links (c : Int) = (⟨p.Links.Said.get (c : Int), p.Links.Due.get (c : Int), p.Links.Got.get (c : Int), p.Links.Closed.get (c : Int)⟩ : ze0) from rfl] at e
  rw [e]
  unfold okLk
  rw [show zi2 p.Links (c : Int) = (⟨p.Links.Said.get (c : Int), p.Links.Due.get (c : Int), p.Links.Got.get (c : Int), p.Links.Closed.get (c : Int)⟩ : ze0) from rfl]
  generalize (!(p.Links.On.get (c : Int) && p.Links.Gone.get (c : Int)) && decide (0 ≤ p.Links.Base.get (c : Int)) && decide (p.Links.Base.get (c : Int) ≤ p.Height) && zy 1 (-1) (p.Links.Told.get (c : Int)) && decide (zet (⟨p.Links.Said.get (c : Int), p.Links.Due.get (c : Int), p.Links.Got.get (c : Int), p.Links.Closed.get (c : Int)⟩ : ze0))) = b
  cases b with
  | false => rw [Tr.run_true (show (!false) = true from rfl), Tr.run_leaf]; rfl
  | true =>
    rw [Tr.run_false (show (!true) = false from rfl)]
    obtain ⟨r, h1, h2⟩ := zaj9 (L := p.Links) (c := (c : Int)) (p := p) (k := ⟨p.Links.On.get c, p.Links.Gone.get c, p.Links.Base.get c, p.Links.Told.get c, p.Links.Fresh.get c, p.Links.Done.get c, ⟨p.Links.Said.get c, p.Links.Due.get c, p.Links.Got.get c, p.Links.Closed.get c⟩, ⟨p.Links.SHeight.get c, p.Links.STime.get c, p.Links.SSaid.get c, p.Links.SGot.get c⟩⟩)
      (l := p.Links.Done.get c) rfl (by omega)
    cases r with
    | inl b => rw [Tr.run_inl h1, Tr.run_leaf, h2.1, h2.2]; rfl
    | inr x => rw [Tr.run_inr h1, Tr.run_leaf, h2.1, h2.2, z5 (by omega)]; rfl
theorem zjo {p : za} (hf : FitPr 140737488351232 p) : zbq p = some (zal p) := by
  have hs := hf.set
  have hq := hf.queue
  have loop : zjl p.Links 0 p = some (if okLk p 0 = true then (if okLk p 1 = true then .inr p else .inl false) else .inl false) := by
    rw [zjl]
    have t0 := zabq hf (c := 0) (by omega)
    have t1 := zabq hf (c := 1) (by omega)
    simp only [Int.ofNat_zero, Nat.zero_add, Int.ofNat_one] at t0 t1
    by_cases h0 : okLk p 0 = true
    · rw [if_pos h0] at t0 ⊢
      rw [zb7 (s' := (p.Links, ((1 : Nat) : Int), p)) t0]
      by_cases h1 : okLk p 1 = true
      · rw [if_pos h1] at t1 ⊢
        rw [zb7 (s' := (p.Links, ((2 : Nat) : Int), p)) t1, zgk (r := .inr p) (by
          show (zdg p.Links 2 p).run = _
          simp only [zdg]
          rw [Tr.run_false (by simp), Tr.run_leaf])]
      · rw [if_neg h1] at t1 ⊢
        rw [zgk (r := .inl false) t1]
    · rw [if_neg h0] at t0 ⊢
      rw [zgk (r := .inl false) t0]
  rw [zbq, zkq, Tr.run_bind (zwb p.Stake), Tr.run_guard (fun _ => ⟨by rw [zwz (by omega)]; rfl, trivial⟩), zwz (by omega)]
  simp only [Option.getD_some]
  have e : ((((((!decide (GoodS p.Stake)) || (decide (p.Height < 0))) || (decide (p.Height ≥ 1099511627776))) || (decide (p.Time < 0))) || (decide (p.Time > 1099511627776))) || (!zy 1 (-1) p.Set)) = !(decide (GoodS p.Stake) && decide (z2v p) && zy 1 (-1) p.Set) := by
    rw [Bool.eq_iff_iff]
    simp only [Bool.or_eq_true, Bool.not_eq_true', decide_eq_false_iff_not, decide_eq_true_eq, Bool.and_eq_false_iff]
    unfold z2v
    constructor
    · rintro (((((h | h) | h) | h) | h) | h)
      · exact .inl (.inl h)
      · exact .inl (.inr (by omega))
      · exact .inl (.inr (by omega))
      · exact .inl (.inr (by omega))
      · exact .inl (.inr (by omega))
      · exact .inr h
    · rintro ((h | h) | h)
      · exact .inl (.inl (.inl (.inl (.inl h))))
      · rcases (show p.Height < 0 ∨ p.Height ≥ 1099511627776 ∨ p.Time < 0 ∨ p.Time > 1099511627776 by omega) with k | k | k | k
        · exact .inl (.inl (.inl (.inl (.inr k))))
        · exact .inl (.inl (.inl (.inr k)))
        · exact .inl (.inl (.inr k))
        · exact .inl (.inr k)
      · exact .inr h
  rw [e]
  unfold zal
  generalize (decide (GoodS p.Stake) && decide (z2v p) && zy 1 (-1) p.Set) = b
  cases b with
  | false => rw [Tr.run_true (show (!false) = true from rfl), Tr.run_leaf]; rfl
  | true =>
    rw [Tr.run_false (show (!true) = false from rfl)]
    by_cases h0 : okLk p 0 = true
    · rw [if_pos h0] at loop
      by_cases h1 : okLk p 1 = true
      · rw [if_pos h1] at loop
        rw [Tr.run_inr loop, Tr.run_bind (zaru (by omega) hf.ps), Tr.run_leaf, h0, h1]
        simp
      · rw [if_neg h1] at loop
        rw [Tr.run_inl loop, Tr.run_leaf, h0, Bool.eq_false_iff.2 h1]
        rfl
    · rw [if_neg h0] at loop
      rw [Tr.run_inl loop, Tr.run_leaf, Bool.eq_false_iff.2 h0]
      rfl
end Go.Proofs.YtmakmlnfbdablaaGreat.Ab
namespace Go.Proofs.YtmakmlnfbdablaaGreat.Ab
open Go Go.RowKit
set_option linter.unusedVariables false
set_option linter.unusedSimpArgs false
structure za5o (p : za) : Prop where
  waits : p.Stake.Waits.length ≤ 9223372036854775807
  set : p.Set.length ≤ 9223372036854775807
  told : ∀ c, (p.Links.Told.get c).length ≤ 9223372036854775807
  done : ∀ c, (p.Links.Done.get c).length ≤ 9223372036854775807
  said : ∀ c, (p.Links.Said.get c).length ≤ 9223372036854775807
  due : ∀ c, (p.Links.Due.get c).length ≤ 9223372036854775807
  queue : p.Queue.length ≤ 9223372036854775807
  ps : ∀ a, a ∈ p.Queue → a.P.Set.length ≤ 9223372036854775807 ∧ a.P.Done.length ≤ 9223372036854775807
theorem FitPr.len {R : Nat} {p : za} (h : FitPr R p) (hR : R ≤ 9223372036854775807) : za5o p :=
  ⟨by have := h.waits; omega, by have := h.set; omega, fun c => by have := h.told c; omega, fun c => by have := h.done c; omega, fun c => by have := h.said c; omega, fun c => by have := h.due c; omega, by have := h.queue; omega,
    fun a ha => by have := h.ps a ha; omega⟩
end Go.Proofs.YtmakmlnfbdablaaGreat.Ab
namespace Go.Proofs.YtmakmlnfbdablaaGreat.Ab
open Go Go.RowKit
set_option linter.unusedVariables false
set_option linter.unusedSimpArgs false
theorem z04 {α : Type} {t e : Tr α} : (Tr.ite (!true) t e).run = e.run := Tr.run_false (show (!true) = false from rfl)
theorem z05 {α : Type} {t e : Tr α} : (Tr.ite (!false) t e).run = t.run := Tr.run_true (show (!false) = true from rfl)
def newM (x t : Int) : Meter := ⟨if x < 5 then 1 else x / 5, IntKind.i64.wrap (t + 10)⟩
def z9t (m : Meter) (x t : Int) : Meter := if m.Next ≤ t then newM x t else m
def z9u (m : Meter) (n : Int) : Meter × Bool := if m.Left ≤ 0 then (m, false) else (⟨IntKind.i64.wrap (m.Left - n), m.Next⟩, true)
theorem zaka {x t : Int} (hx : i64 x) : zqg x t = some (newM x t) := by
  have h : zbi x = some (if x < 5 then 1 else x / 5) := by
    rw [zbi, ze9, Tr.run_guard (by decide), Tr.run_leaf]
    unfold i64 at hx
    by_cases h5 : x < 5
    · have : Int.tdiv x 5 < 1 := by
        by_cases h0 : 0 ≤ x
        · rw [Int.tdiv_eq_ediv_of_nonneg h0]; omega
        · have : Int.tdiv x 5 ≤ 0 := by
            have h1 : Int.tdiv (-x) 5 = - Int.tdiv x 5 := Int.neg_tdiv x 5
            rw [Int.tdiv_eq_ediv_of_nonneg (by omega)] at h1
            omega
          omega
      have hl : -9223372036854775808 ≤ Int.tdiv x 5 := by
        by_cases h0 : 0 ≤ x
        · rw [Int.tdiv_eq_ediv_of_nonneg h0]; omega
        · have h1 : Int.tdiv (-x) 5 = - Int.tdiv x 5 := Int.neg_tdiv x 5
          rw [Int.tdiv_eq_ediv_of_nonneg (by omega)] at h1
          omega
      rw [zj (by omega) (by omega), if_neg (by omega), if_pos h5]
    · rw [Int.tdiv_eq_ediv_of_nonneg (by omega), zj (by omega) (by omega), if_neg h5]
      split
      · rfl
      · congr 1; omega
  rw [zqg, zs8, Tr.run_bind h, Tr.run_leaf]; rfl
theorem zafj {m : Meter} {x t : Int} (hx : i64 x) : zol m x t = some (z9t m x t) := by
  rw [zol, zqh]
  unfold z9t
  by_cases h : m.Next ≤ t
  · rw [Tr.run_true (by simpa using h), Tr.run_bind (zaka hx), Tr.run_leaf, if_pos h]
  · rw [Tr.run_false (by simpa using h), Tr.run_leaf, if_neg h]
theorem zafk {m : Meter} {n : Int} : zhl m n = some (z9u m n) := by
  rw [zhl, zqi]
  unfold z9u
  by_cases h : m.Left ≤ 0
  · rw [Tr.run_true (by simpa using h), Tr.run_leaf, if_pos h]
  · rw [Tr.run_false (by simpa using h), Tr.run_leaf, if_neg h]
def zabr : za := ⟨0, 0, newS, [], default, newM 0 0, []⟩
theorem z7o : zko = some zabr := by
  rw [zko, zmf, Tr.run_bind zadm, Tr.run_bind (zaka (by unfold i64; omega)), Tr.run_leaf]; rfl
def zdj (p : za) (d v n : Int) : za × Int :=
  if zal p = true then (if (zb8 p.Stake d v n).2 ≠ 0 then (p, (zb8 p.Stake d v n).2) else ({ p with Stake := (zb8 p.Stake d v n).1 }, 0)) else (p, 2)
theorem z5p {p : za} (hf : FitPr 140737488351232 p) {d v n : Int} (hn : n ≤ 9223372036854775807) : zid p d v n = some (zdj p d v n) := by
  rw [zid, zf6, Tr.run_bind (zjo hf)]
  unfold zdj
  by_cases hg : zal p = true
  · rw [hg, z04, if_pos rfl, Tr.run_bind (zadg hn)]
    by_cases h0 : (zb8 p.Stake d v n).2 ≠ 0
    · rw [Tr.run_true (by simpa using h0), Tr.run_leaf, if_pos h0]
    · rw [Tr.run_false (by simpa using h0), Tr.run_leaf, if_neg h0]
  · rw [Bool.eq_false_iff.2 hg, z05, Tr.run_leaf]; rfl
def z5q (p : za) (now : Int) : Wait := ⟨0, 0, 0, 0, p.Height + 1, now + 20, if p.Links.On.x0 = true then p.Height + 1 else 0, if p.Links.On.x1 = true then p.Height + 1 else 0⟩
def zabs (L : Links) : Links := { L with Fresh := ⟨L.Fresh.x0 || L.On.x0, L.Fresh.x1 || L.On.x1⟩ }
def zda (p : za) (d v k now : Int) : za × Int :=
  if zal p = true ∧ 0 ≤ now ∧ now ≤ 1099511627776 then
    (if (zbh p.Stake d v k (z5q p now)).2 ≠ 0 then (p, (zbh p.Stake d v k (z5q p now)).2) else ({ p with Stake := (zbh p.Stake d v k (z5q p now)).1, Links := zabs p.Links }, 0))
  else (p, 2)
theorem zjp {p : za} (h : zal p = true) : GoodS p.Stake ∧ z2v p ∧ zy 1 (-1) p.Set = true ∧ okLk p 0 = true ∧ okLk p 1 = true ∧ p.Queue.all (zxb p) = true := by
  unfold zal at h
  simp only [Bool.and_eq_true, decide_eq_true_eq] at h
  exact ⟨h.1.1.1.1.1, h.1.1.1.1.2, h.1.1.1.2, h.1.1.2, h.1.2, h.2⟩
theorem z7p {p : za} {now : Int} : (((!zal p) || (decide (now < 0))) || (decide (now > 1099511627776))) = !decide (zal p = true ∧ 0 ≤ now ∧ now ≤ 1099511627776) := by
  rw [Bool.eq_iff_iff]
  simp only [Bool.or_eq_true, Bool.not_eq_true', decide_eq_true_eq, decide_eq_false_iff_not]
  cases zal p <;> simp <;> omega
theorem z1w {p : za} (hf : FitPr 140737488351232 p) {d v k now : Int} (hk : k ≤ 9223372036854775807) : zbk p d v k now = some (zda p d v k now) := by
  rw [zbk, zep, Tr.run_bind (zjo hf)]
  unfold zda
  by_cases hg : zal p = true ∧ 0 ≤ now ∧ now ≤ 1099511627776
  · rw [if_pos hg]
    obtain ⟨g1, g2, -⟩ := zjp hg.1
    unfold z2v at g2
    have turn : ∀ (c : Nat), c < 2 → ∀ (q : za) (w : Wait), (zaz d v k c p q w).run = some (.inl (d, v, k, ((c + 1 : Nat) : Int), p, q, if p.Links.On.get c = true then { w with h0 := if (c : Int) = 0 then p.Height + 1 else w.h0, h1 := if (c : Int) = 1 then p.Height + 1 else w.h1 } else w)) := by
      intro c hc q w
      simp only [zaz]
      rw [Tr.run_true (by simp; omega), Tr.run_guard ⟨by omega, by omega⟩]
      by_cases ho : p.Links.On.get c = true
      · rw [Tr.run_true ho, Tr.run_guard ⟨by omega, by omega⟩, Tr.run_leaf, z5 (by omega), if_pos ho, zj (by omega) (by omega)]
      · rw [Tr.run_false (Bool.eq_false_iff.2 ho), Tr.run_leaf, z5 (by omega), if_neg ho]
    have hw : zex d v k 0 p default ⟨0, 0, 0, 0, p.Height + 1, now + 20, 0, 0⟩ = some (d, v, k, p, default, z5q p now) := by
      rw [zex, zb7 (s' := (d, v, k, ((1 : Nat) : Int), p, _, _)) (turn 0 (by omega) _ _), zb7 (s' := (d, v, k, ((2 : Nat) : Int), p, _, _)) (turn 1 (by omega) _ _), zgk (by
        show (zaz d v k 2 p _ _).run = _
        simp only [zaz]
        rw [Tr.run_false (by simp), Tr.run_leaf])]
      have e0 : p.Links.On.get ((0 : Nat) : Int) = p.Links.On.x0 := rfl
      have e1 : p.Links.On.get ((1 : Nat) : Int) = p.Links.On.x1 := rfl
      rw [e0, e1]
      unfold z5q
      cases p.Links.On.x0 <;> cases p.Links.On.x1 <;> rfl
    rw [Tr.run_false (by rw [z7p, decide_eq_true hg]; rfl), zj (x := p.Height + 1) (by omega) (by omega), zj (x := now + 20) (by omega) (by omega), Tr.run_bind hw]
    simp only []
    rw [Tr.run_bind (z9j hk)]
    by_cases h0 : (zbh p.Stake d v k (z5q p now)).2 ≠ 0
    · rw [Tr.run_true (by simpa using h0), Tr.run_leaf, if_pos h0]
    · rw [Tr.run_false (by simpa using h0), if_neg h0]
      have turn2 : ∀ (c : Nat), c < 2 → ∀ (p q : za), (zba c p q).run = some (.inl (((c + 1 : Nat) : Int), { p with Links := { p.Links with Fresh := p.Links.Fresh.set c (p.Links.Fresh.get c || p.Links.On.get c) } }, q)) := by
        intro c hc p q
        simp only [zba]
        rw [Tr.run_true (by simp; omega), Tr.run_guard ⟨by omega, by omega⟩, Tr.run_guard (fun _ => ⟨⟨by omega, by omega⟩, trivial⟩), Tr.run_guard ⟨by omega, by omega⟩, Tr.run_leaf, z5 (by omega)]
      rw [Tr.run_bind (v := ({ p with Stake := (zbh p.Stake d v k (z5q p now)).1, Links := zabs p.Links }, default)) (by
        rw [zix, zb7 (s' := (((1 : Nat) : Int), _, _)) (turn2 0 (by omega) _ _), zb7 (s' := (((2 : Nat) : Int), _, _)) (turn2 1 (by omega) _ _), zgk (by
          show (zba 2 _ _).run = _
          simp only [zba]
          rw [Tr.run_false (by simp), Tr.run_leaf])]
        rfl), Tr.run_leaf]
  · rw [if_neg hg, Tr.run_true (by rw [z7p, decide_eq_false hg]; rfl), Tr.run_leaf]
end Go.Proofs.YtmakmlnfbdablaaGreat.Ab
namespace Go.Proofs.YtmakmlnfbdablaaGreat.Ab
open Go Go.RowKit
set_option linter.unusedVariables false
set_option linter.unusedSimpArgs false
theorem z06 : ∀ {l : List Int} {p : Int}, zan p l = true → (∀ q, q ∈ l → p < q ∧ q ≤ 5) ∧ l.Pairwise (· < ·)
  | [], p, h => ⟨by simp, .nil⟩
  | q :: l, p, h => by
    simp only [zan, Bool.and_eq_true, decide_eq_true_eq] at h
    obtain ⟨h1, h2⟩ := z06 h.2
    refine ⟨fun x hx => ?_, List.pairwise_cons.2 ⟨fun x hx => (h1 x hx).1, h2⟩⟩
    rcases List.mem_cons.1 hx with rfl | hx
    · exact h.1
    · have := h1 x hx; omega
theorem zabt : ∀ {l : List Int} {p : Int}, (∀ q, q ∈ l → p < q ∧ q ≤ 5) → l.Pairwise (· < ·) → zan p l = true
  | [], p, _, _ => rfl
  | q :: l, p, h1, h2 => by
    have hq := h1 q (List.mem_cons_self ..)
    rw [List.pairwise_cons] at h2
    simp only [zan, Bool.and_eq_true, decide_eq_true_eq]
    exact ⟨hq, zabt (fun x hx => ⟨h2.1 x hx, (h1 x (List.mem_cons_of_mem _ hx)).2⟩) h2.2⟩
theorem zadu : ∀ {l m : List Int}, l.Pairwise (· < ·) → m.Pairwise (· < ·) → (∀ p, p ∈ l ↔ p ∈ m) → l = m
  | [], [], _, _, _ => rfl
  | [], b :: m, _, _, h => by have := (h b).2 (List.mem_cons_self ..); cases this
  | a :: l, [], _, _, h => by have := (h a).1 (List.mem_cons_self ..); cases this
  | a :: l, b :: m, hl, hm, h => by
    rw [List.pairwise_cons] at hl hm
    have hab : a = b := by
      rcases List.mem_cons.1 ((h a).1 (List.mem_cons_self ..)) with h1 | h1
      · exact h1
      · rcases List.mem_cons.1 ((h b).2 (List.mem_cons_self ..)) with h2 | h2
        · exact h2.symm
        · have k1 := hm.1 a h1
          have k2 := hl.1 b h2
          omega
    subst hab
    congr 1
    refine zadu hl.2 hm.2 fun p => ⟨fun hp => ?_, fun hp => ?_⟩
    · rcases List.mem_cons.1 ((h p).1 (List.mem_cons_of_mem _ hp)) with h1 | h1
      · have := hl.1 p hp; omega
      · exact h1
    · rcases List.mem_cons.1 ((h p).2 (List.mem_cons_of_mem _ hp)) with h1 | h1
      · have := hm.1 p hp; omega
      · exact h1
theorem zarw (a b : Int) : zpo a b = some (decide (a < b)) := by
  have h : ∀ x, zgi x = some false := fun x => by rw [zgi, zkt, Tr.run_leaf]; simp
  rw [zpo, zmh, Tr.run_bind (h a), Tr.run_guard (fun e => by cases e), Tr.run_leaf]
  simp
theorem zafl (x : Int) : zbu x = some false := by rw [zbu, zgy, Tr.run_leaf]; simp
theorem zadv {l : List Int} (h : l.Pairwise (· < ·)) {x y : Nat} (hxy : x < y) (hy : y < l.length) : l.getD x 0 < l.getD y 0 := by
  have := List.pairwise_iff_getElem.1 h x y (by omega) hy hxy
  rw [List.getD_eq_getElem?_getD, List.getD_eq_getElem?_getD, List.getElem?_eq_getElem hy, List.getElem?_eq_getElem (show x < l.length by omega)]
  exact this
def zabu (l : List Int) (v k : Int) : Prop := 0 ≤ k ∧ k ≤ l.length ∧ (∀ x : Nat, (x : Int) < k → l.getD x 0 < v) ∧ (∀ x : Nat, k ≤ x → x < l.length → v ≤ l.getD x 0)
theorem zakb {l : List Int} (hs : l.Pairwise (· < ·)) (hl : l.length ≤ 1000) (v : Int) :
    ∃ k, zgj l v l.length 0 l.length = some (l, v, (l.length : Int), k) ∧ zabu l v k := by
  have := zs0 (F := fun s : (List Int) × Int × Int × Int × Int => (zbw s.1 s.2.1 s.2.2.1 s.2.2.2.1 s.2.2.2.2).run)
    (fun s => s.1 = l ∧ s.2.1 = v ∧ s.2.2.1 = l.length ∧ (0 ≤ s.2.2.2.1 ∧ s.2.2.2.1 ≤ s.2.2.2.2 ∧ s.2.2.2.2 ≤ l.length) ∧ (∀ x : Nat, (x : Int) < s.2.2.2.1 → l.getD x 0 < v) ∧ (∀ x : Nat, s.2.2.2.2 ≤ x → x < l.length → v ≤ l.getD x 0))
    (fun s => (s.2.2.2.2 - s.2.2.2.1).toNat) (fun s r => ∃ k, r = (l, v, (l.length : Int), k) ∧ zabu l v k) ?_ (l, v, (l.length : Int), 0, (l.length : Int)) ⟨rfl, rfl, rfl, ⟨by simp, by simp, by simp⟩, by intro x hx; simp only [] at hx; omega, by intro x hx h2; simp only [] at hx; omega⟩
  · obtain ⟨r, h1, k, rfl, h3⟩ := this
    exact ⟨k, h1, h3⟩
  · rintro ⟨x0, x1, x2, i, j⟩ ⟨h1, h2, h3, ⟨h4, h5, h6⟩, h7, h8⟩
    simp only at h1 h2 h3 h4 h5 h6 h7 h8
    rw [h1, h2, h3] at *
    simp only [zbw]
    by_cases hc : i < j
    · have hm : IntKind.i64.wrap (Int.fdiv (IntKind.u64.wrap (IntKind.i64.wrap (i + j))) (2 ^ 1)) = (i + j) / 2 := by
        rw [zj (x := i + j) (by omega) (by omega), zai7 (by omega) (by omega), Int.fdiv_eq_ediv_of_nonneg _ (by decide), zj (by omega) (by omega)]
        rfl
      rw [hm]
      generalize hmm : (i + j) / 2 = m
      have m1 : i ≤ m := by omega
      have m2 : m < j := by omega
      rw [Tr.run_true (by simpa using hc), Tr.run_guard (by decide), Tr.run_guard ⟨by omega, by show m < (l.length : Nat); omega⟩, Tr.run_bind (zarw _ _)]
      by_cases hlt : l.getD m.toNat 0 < v
      · refine .inl ⟨(l, v, (l.length : Int), m + 1, j), by rw [Tr.run_true (by simpa using hlt), Tr.run_leaf, zj (by omega) (by omega)], ⟨rfl, rfl, rfl, ⟨by simp only []; omega, by simp only []; omega, by simp only []; omega⟩, ?_, h8⟩, by simp only []; omega, fun r hr => hr⟩
        intro x hx
        simp only [] at hx
        by_cases hxm : x = m.toNat
        · rw [hxm]; exact hlt
        · have := zadv hs (x := x) (y := m.toNat) (by omega) (by omega)
          omega
      · refine .inl ⟨(l, v, (l.length : Int), i, m), by rw [Tr.run_false (by simpa using hlt), Tr.run_leaf], ⟨rfl, rfl, rfl, ⟨by simp only []; omega, by simp only []; omega, by simp only []; omega⟩, h7, ?_⟩, by simp only []; omega, fun r hr => hr⟩
        intro x hx hx2
        simp only [] at hx
        by_cases hxm : x = m.toNat
        · rw [hxm]; omega
        · have := zadv hs (x := m.toNat) (y := x) (by omega) hx2
          omega
    · refine .inr ⟨(l, v, (l.length : Int), i), by rw [Tr.run_false (by simpa using hc), Tr.run_leaf], i, rfl, h4, by omega, h7, fun x hx => h8 x (by omega)⟩
theorem zakc {l : List Int} (hs : l.Pairwise (· < ·)) (hl : l.length ≤ 1000) (v : Int) : ∃ k, zq l v = some (k, decide (v ∈ l)) ∧ zabu l v k := by
  obtain ⟨k, h1, h2⟩ := zakb hs hl v
  refine ⟨k, ?_, h2⟩
  obtain ⟨k0, k1, k2, k3⟩ := h2
  have hin : decide (k < (l.length : Int)) = true → (0 : Int) ≤ k ∧ k < ((Sl.len (.ints l) : Nat) : Int) := fun h => ⟨k0, by simpa [Sl.len] using h⟩
  rw [zq, zcr, Tr.run_bind h1]
  simp only []
  rw [Tr.run_guard (fun h => ⟨hin h, trivial⟩), Tr.run_guard (fun _ h => ⟨hin h, trivial⟩), Tr.run_guard (fun _ _ => ⟨by rw [zafl]; rfl, trivial⟩), Tr.run_guard (fun _ _ _ => ⟨by rw [zafl]; rfl, trivial⟩), Tr.run_leaf, zafl, zafl]
  simp only [Option.getD_some, Bool.and_false, Bool.or_false]
  congr 2
  rw [Bool.eq_iff_iff]
  simp only [Bool.and_eq_true, decide_eq_true_eq, beq_iff_eq]
  constructor
  · rintro ⟨hk, he⟩
    rw [← he]
    exact zhw (by omega) 0
  · intro hv
    obtain ⟨x, hx, he⟩ := List.getElem_of_mem hv
    have hg : l.getD x 0 = v := by rw [List.getD_eq_getElem?_getD, List.getElem?_eq_getElem hx]; exact he
    have hkx : k ≤ x := by
      rcases Int.lt_or_le (x : Int) k with h | h
      · have := k2 x h; omega
      · exact h
    refine ⟨by omega, ?_⟩
    have h3 := k3 k.toNat (by omega) (by omega)
    by_cases hxk : x = k.toNat
    · rw [← hxk]; exact hg
    · have := zadv hs (x := k.toNat) (y := x) (by omega) hx
      omega
def insD (l : List Int) (v : Int) : List Int := ((List.range 6).map (fun (u : Nat) => (u : Int))).filter (fun u => u == v || decide (u ∈ l))
theorem range_pw : ((List.range 6).map (fun (u : Nat) => (u : Int))).Pairwise (· < ·) := by decide
theorem zadw (l : List Int) (v : Int) : (insD l v).Pairwise (· < ·) := range_pw.sublist List.filter_sublist
theorem zag4 {u : Int} : u ∈ (List.range 6).map (fun (u : Nat) => (u : Int)) ↔ 0 ≤ u ∧ u ≤ 5 := by
  rw [List.mem_map]
  constructor
  · rintro ⟨x, hx, rfl⟩; rw [List.mem_range] at hx; omega
  · intro h; exact ⟨u.toNat, by rw [List.mem_range]; omega, by omega⟩
theorem mem_insD {l : List Int} {v u : Int} : u ∈ insD l v ↔ (0 ≤ u ∧ u ≤ 5) ∧ (u = v ∨ u ∈ l) := by
  unfold insD; rw [List.mem_filter, zag4]; simp
theorem zake (l : List Int) (v : Int) : zan (-1) (insD l v) = true := zabt (fun q hq => by have := (mem_insD.1 hq).1; omega) (zadw l v)
theorem zarx {l : List Int} {v : Int} (h : zan (-1) l = true) (hv : v ∈ l) : insD l v = l := by
  obtain ⟨h1, h2⟩ := z06 h
  refine zadu (zadw l v) h2 fun u => ?_
  rw [mem_insD]
  constructor
  · rintro ⟨_, rfl | h⟩ <;> assumption
  · intro hu; have := h1 u hu; exact ⟨by omega, .inr hu⟩
theorem zanc {l : List Int} {v k : Int} (h : zan (-1) l = true) (hv : v ∉ l) (hv5 : 0 ≤ v ∧ v ≤ 5) (hk : zabu l v k) : l.take k.toNat ++ [v] ++ l.drop k.toNat = insD l v := by
  obtain ⟨h1, h2⟩ := z06 h
  obtain ⟨k0, k1, k2, k3⟩ := hk
  have htake : ∀ x, x ∈ l.take k.toNat → x < v := by
    intro x hx
    obtain ⟨i, hi, rfl⟩ := List.getElem_of_mem hx
    rw [List.length_take] at hi
    have := k2 i (by omega)
    rw [List.getD_eq_getElem?_getD, List.getElem?_eq_getElem (by omega)] at this
    rw [List.getElem_take]; exact this
  have hdrop : ∀ x, x ∈ l.drop k.toNat → v < x := by
    intro x hx
    have hm : x ∈ l := List.mem_of_mem_drop hx
    obtain ⟨i, hi, rfl⟩ := List.getElem_of_mem hx
    rw [List.length_drop] at hi
    have := k3 (k.toNat + i) (by omega) (by omega)
    rw [List.getD_eq_getElem?_getD, List.getElem?_eq_getElem (by omega)] at this
    rw [List.getElem_drop] at hm ⊢
    have hne : l[k.toNat + i] ≠ v := fun e => hv (e ▸ hm)
    have h3 : v ≤ l[k.toNat + i] := this
    omega
  refine zadu ?_ (zadw l v) fun u => ?_
  · rw [List.append_assoc, List.pairwise_append]
    refine ⟨h2.sublist (List.take_sublist _ _), ?_, ?_⟩
    · rw [List.singleton_append, List.pairwise_cons]
      exact ⟨hdrop, h2.sublist (List.drop_sublist _ _)⟩
    · intro a ha b hb
      rw [List.singleton_append] at hb
      rcases List.mem_cons.1 hb with rfl | hb
      · exact htake a ha
      · have := htake a ha; have := hdrop b hb; omega
  · rw [mem_insD, List.append_assoc, List.mem_append, List.singleton_append, List.mem_cons]
    constructor
    · rintro (hu | rfl | hu)
      · have hm := List.mem_of_mem_take hu
        have := h1 u hm
        exact ⟨by omega, .inr hm⟩
      · exact ⟨hv5, .inl rfl⟩
      · have hm := List.mem_of_mem_drop hu
        have := h1 u hm
        exact ⟨by omega, .inr hm⟩
    · rintro ⟨_, rfl | hu⟩
      · exact .inr (.inl rfl)
      · rw [← List.take_append_drop k.toNat l, List.mem_append] at hu
        exact hu.imp id .inr
end Go.Proofs.YtmakmlnfbdablaaGreat.Ab
namespace Go.Proofs.YtmakmlnfbdablaaGreat.Ab
open Go Go.RowKit
set_option linter.unusedVariables false
set_option linter.unusedSimpArgs false
def ztu (p : za) (v : Int) : Int := if (IntKind.i64.wrap (Int.tdiv (p.Stake.Validators.Tokens.get v) 100)) > 1 then (IntKind.i64.wrap (Int.tdiv (p.Stake.Validators.Tokens.get v) 100)) else 1
def zakf (p : za) (c v : Int) : za := { p with Links := { p.Links with Done := p.Links.Done.set c (insD (p.Links.Done.get c) v) } }
def zand (p : za) (a : Asked) : Int := if (p.Links.Base.get a.C) > a.P.Id then (p.Links.Base.get a.C) else a.P.Id
def z07 (p : za) (a : Asked) : za × Bool :=
  if a.P.Kind = 2 then ({ p with Stake := zq3 p.Stake a.C a.P.Id }, true)
  else if a.P.Kind = 4 then (if p.Stake.Validators.Dead.get a.P.V = true then (p, true) else ({ p with Stake := (zaw (zdi p.Stake a.P.V (zand p a) 50).1 a.P.V 2).1 }, true))
  else if p.Stake.Validators.Jailed.get a.P.V = true then (zakf p a.C a.P.V, true)
  else if (z9u p.Meter (ztu p a.P.V)).2 = true then (zakf { p with Stake := (zaw p.Stake a.P.V 0).1, Meter := (z9u p.Meter (ztu p a.P.V)).1 } a.C a.P.V, true)
  else (p, false)
structure zakg (p : za) (a : Asked) : Prop where
  v : 0 ≤ a.P.V ∧ a.P.V ≤ 5
  c : 0 ≤ a.C ∧ a.C < 2
  k : a.P.Kind = 2 ∨ a.P.Kind = 3 ∨ a.P.Kind = 4
  w : p.Stake.Waits.length * 64 ≤ 140737488351232
  d : zan (-1) (p.Links.Done.get a.C) = true
theorem zpw {α : Type} (a : A2 α) {c : Int} (hc : 0 ≤ c ∧ c < 2) : a.set c (a.get c) = a := by
  rcases (show c = 0 ∨ c = 1 by omega) with rfl | rfl <;> rfl
theorem z3l {l : List Int} (h : zan (-1) l = true) : l.length ≤ 6 := by
  have := zwu h (by omega); omega
theorem zakh {p : za} {a : Asked} (hf : zakg p a) (hv : a.P.V ∈ p.Links.Done.get a.C) : zakf p a.C a.P.V = p := by
  unfold zakf
  rw [zarx hf.d hv, zpw _ hf.c]
theorem zaki {l : List Int} {k v : Int} (hl : l.length ≤ 6) (hk : zabu l v k) : zb9 l k [v] = some (l.take k.toNat ++ [v] ++ l.drop k.toNat) := by
  unfold zb9 insP
  rw [if_pos ⟨hk.1, hk.2.1, by simp, by simp; omega⟩]
theorem zary {p : za} {a : Asked} (hf : zakg p a) : znj a p = some ((z07 p a).2, (z07 p a).1) := by
  obtain ⟨hv, hc, hk, hw, hd⟩ := hf
  have hl := z3l hd
  obtain ⟨pk, hs, hpl⟩ := zakc (z06 hd).2 (by omega) a.P.V
  have hcl := zaa4 (l := p.Links.Done.get a.C) (by omega)
  have hin := zaki hl hpl
  have hmem : (!decide (a.P.V ∈ p.Links.Done.get a.C)) = true → (p.Links.Done.get a.C).take pk.toNat ++ [a.P.V] ++ (p.Links.Done.get a.C).drop pk.toNat = insD (p.Links.Done.get a.C) a.P.V := by
    intro h
    exact zanc hd (by simpa using h) hv hpl
  rw [znj, zku, Tr.run_guard ⟨by omega, by omega⟩, Tr.run_guard hc]
  unfold z07
  by_cases k2 : a.P.Kind = 2
  · rw [Tr.run_true (by simpa using k2), Tr.run_guard (by rw [z1t hw]; rfl), Tr.run_leaf, z1t hw, if_pos k2]; rfl
  · rw [Tr.run_false (by simpa using k2), if_neg k2]
    by_cases k4 : a.P.Kind = 4
    · rw [if_pos k4, Tr.run_false (by rw [k4]; decide), Tr.run_true (by simpa using k4)]
      by_cases hdd : p.Stake.Validators.Dead.get a.P.V = true
      · rw [if_pos hdd, hdd, z04, Tr.run_leaf]
      · rw [if_neg hdd, Bool.eq_false_iff.2 hdd, z05, Tr.run_guard (by rw [z9n]; rfl), z9n]
        simp only [Option.getD_some]
        rw [Tr.run_guard (by rw [zadi]; rfl), Tr.run_leaf, zadi]; rfl
    · have k3 : a.P.Kind = 3 := by omega
      rw [if_neg k4, Tr.run_true (by simpa using k3)]
      by_cases hj : p.Stake.Validators.Jailed.get a.P.V = true
      · rw [if_pos hj, hj, z04, Tr.run_guard (by rw [hs]; rfl), hs]
        simp only [Option.getD_some]
        by_cases hm : a.P.V ∈ p.Links.Done.get a.C
        · rw [decide_eq_true hm, z04, Tr.run_leaf, zakh ⟨hv, hc, hk, hw, hd⟩ hm]
        · rw [decide_eq_false hm, z05, Tr.run_guard (by rw [hcl]; rfl), hcl]
          simp only [Option.getD_some]
          rw [Tr.run_guard (by rw [hin]; rfl), Tr.run_leaf, hin, Option.getD_some, hmem (by simpa using hm)]
          rfl
      · rw [if_neg hj, Bool.eq_false_iff.2 hj, z05, Tr.run_guard (by decide), Tr.run_guard (by rw [zafk]; rfl), zafk]
        simp only [Option.getD_some]
        rw [show (if (IntKind.i64.wrap (Int.tdiv (p.Stake.Validators.Tokens.get a.P.V) 100)) > 1 then (IntKind.i64.wrap (Int.tdiv (p.Stake.Validators.Tokens.get a.P.V) 100)) else 1) = ztu p a.P.V from rfl]
        by_cases ht : (z9u p.Meter (ztu p a.P.V)).2 = true
        · rw [if_pos ht, ht, z04, Tr.run_guard (by rw [zajr]; rfl), Tr.run_guard (by rw [hs]; rfl), hs, zajr]
          simp only [Option.getD_some]
          by_cases hm : a.P.V ∈ p.Links.Done.get a.C
          · rw [decide_eq_true hm, z04, Tr.run_leaf]
            have := zakh (p := { p with Stake := (zaw p.Stake a.P.V 0).1, Meter := (z9u p.Meter (ztu p a.P.V)).1 }) (a := a) ⟨hv, hc, hk, by show (zaw p.Stake a.P.V 0).1.Waits.length * 64 ≤ _; rw [zabi]; exact hw, hd⟩ hm
            rw [this]
          · rw [decide_eq_false hm, z05, Tr.run_guard (by rw [hcl]; rfl), hcl]
            simp only [Option.getD_some]
            rw [Tr.run_guard (by rw [hin]; rfl), Tr.run_leaf, hin, Option.getD_some, hmem (by simpa using hm)]
            rfl
        · rw [if_neg ht, Bool.eq_false_iff.2 ht, z05, Tr.run_leaf]
end Go.Proofs.YtmakmlnfbdablaaGreat.Ab
namespace Go.Proofs.YtmakmlnfbdablaaGreat.Ab
open Go Go.RowKit
set_option linter.unusedVariables false
set_option linter.unusedSimpArgs false
def upP (p : za) (S : Stake) (D : A2 (List Int)) (M : Meter) : za := { p with Stake := S, Links := { p.Links with Done := D }, Meter := M }
def DealI (p0 p : za) : Prop := ∃ S D M, p = upP p0 S D M ∧ GoodS S ∧ zan (-1) D.x0 = true ∧ zan (-1) D.x1 = true
theorem DealI.get {p0 p : za} (h : DealI p0 p) {c : Int} : zan (-1) (p.Links.Done.get c) = true := by
  obtain ⟨S, D, M, rfl, _, h0, h1⟩ := h
  show zan (-1) (D.get c) = true
  unfold A2.get; split <;> assumption
theorem DealI.good {p0 p : za} (h : DealI p0 p) : GoodS p.Stake := by obtain ⟨S, D, M, rfl, h, _⟩ := h; exact h
theorem zakj {p0 : za} {S : Stake} {D : A2 (List Int)} {M : Meter} {c v : Int} (h0 : zan (-1) D.x0 = true) (h1 : zan (-1) D.x1 = true) : ∃ D', zakf (upP p0 S D M) c v = upP p0 S D' M ∧ zan (-1) D'.x0 = true ∧ zan (-1) D'.x1 = true := by
  refine ⟨D.set c (insD (D.get c) v), rfl, ?_, ?_⟩
  · show zan (-1) (if c = 0 then insD (D.get c) v else D.x0) = true
    split
    · exact zake _ _
    · exact h0
  · show zan (-1) (if c = 1 then insD (D.get c) v else D.x1) = true
    split
    · exact zake _ _
    · exact h1
theorem zq6 {s : Stake} (hg : GoodS s) (v h f : Int) : GoodS (zdi s v h f).1 := (zagz hg v h f).1
theorem ztv {s : Stake} (hg : GoodS s) (v : Int) {what : Int} (hw : what = 0 ∨ what = 1 ∨ what = 2) : GoodS (zaw s v what).1 := (zagy hg v hw).1
theorem zafm {p0 p : za} (h : DealI p0 p) (a : Asked) : DealI p0 (z07 p a).1 := by
  obtain ⟨S, D, M, rfl, hS, h0, h1⟩ := h
  unfold z07
  split
  · exact ⟨zq3 S a.C a.P.Id, D, M, rfl, z2u hS, h0, h1⟩
  · split
    · split
      · exact ⟨S, D, M, rfl, hS, h0, h1⟩
      · exact ⟨_, D, M, rfl, ztv (zq6 hS _ _ _) _ (.inr (.inr rfl)), h0, h1⟩
    · split
      · obtain ⟨D', e, k0, k1⟩ := zakj (p0 := p0) (S := S) (M := M) (c := a.C) (v := a.P.V) h0 h1
        exact ⟨S, D', M, e, hS, k0, k1⟩
      · split
        · obtain ⟨D', e, k0, k1⟩ := zakj (p0 := p0) (S := (zaw S a.P.V 0).1) (M := (z9u M (ztu (upP p0 S D M) a.P.V)).1) (c := a.C) (v := a.P.V) h0 h1
          exact ⟨_, D', _, e, ztv hS _ (.inl rfl), k0, k1⟩
        · exact ⟨S, D, M, rfl, hS, h0, h1⟩
def zwe (t : za × A2 Bool × List Asked) (a : Asked) : za × A2 Bool × List Asked :=
  if t.2.1.get a.C = true then (t.1, t.2.1.set a.C true, t.2.2 ++ [a])
  else if (z07 t.1 a).2 = true then ((z07 t.1 a).1, t.2.1, t.2.2)
  else ((z07 t.1 a).1, t.2.1.set a.C true, t.2.2 ++ [a])
def zabv (p0 : za) (i : Nat) (t : za × A2 Bool × List Asked) : Prop :=
  DealI p0 t.1 ∧ t.2.2.length ≤ i ∧ (∀ c : Int, 0 ≤ c ∧ c < 2 → t.2.1.get c = t.2.2.any (fun b => b.C == c)) ∧ ∀ b, b ∈ t.2.2 → b ∈ p0.Queue
theorem zar {α : Type} (a : A2 α) {i j : Int} (y : α) (hi : 0 ≤ i ∧ i < 2) (hj : 0 ≤ j ∧ j < 2) : (a.set i y).get j = if j = i then y else a.get j := by
  rcases (show i = 0 ∨ i = 1 by omega) with rfl | rfl <;> rcases (show j = 0 ∨ j = 1 by omega) with rfl | rfl <;> rfl
theorem z9v {p0 : za} {i : Nat} {t : za × A2 Bool × List Asked} (h : zabv p0 i t) {a : Asked} (hc : 0 ≤ a.C ∧ a.C < 2) (ha : a ∈ p0.Queue) : zabv p0 (i + 1) (zwe t a) := by
  obtain ⟨h1, h2, h3, h4⟩ := h
  have more : ∀ p, DealI p0 p → zabv p0 (i + 1) (p, t.2.1.set a.C true, t.2.2 ++ [a]) := by
    intro p hp
    refine ⟨hp, by simp; omega, fun c hcc => ?_, fun b hb => ?_⟩
    · show (t.2.1.set a.C true).get c = (t.2.2 ++ [a]).any (fun b => b.C == c)
      rw [zar _ _ hc hcc, List.any_append]
      by_cases e : c = a.C
      · rw [if_pos e]; simp [e]
      · rw [if_neg e, h3 c hcc]; simp [Ne.symm e]
    · rcases List.mem_append.1 hb with hb | hb
      · exact h4 b hb
      · rw [List.mem_singleton.1 hb]; exact ha
  unfold zwe
  split
  · exact more _ h1
  · split
    · exact ⟨zafm h1 a, by simp only []; omega, h3, h4⟩
    · exact more _ (zafm h1 a)
theorem zarz {p0 p : za} (hp : DealI p0 p) {q : za} {a : Asked} (ha : zxb q a = true) : zakg p a := by
  unfold zxb at ha
  simp only [Bool.and_eq_true, decide_eq_true_eq, beq_iff_eq, Bool.not_eq_true', beq_eq_false_iff_ne] at ha
  obtain ⟨⟨⟨⟨c0, c1⟩, _⟩, hg⟩, hk⟩ := ha
  have hf := zlt hg
  exact ⟨⟨hf.2.2.2.2.1, hf.2.2.2.2.2.1⟩, ⟨c0, c1⟩, by omega, hp.good.fit, hp.get⟩
theorem zane {p0 : za} {q : za} {now : Int} {d : za} {l : List Asked} {p : za} (hp : DealI p0 p) (hl : l.length * 88 ≤ 140737488351232) (ha : ∀ a, a ∈ l → zxb q a = true ∧ a ∈ p0.Queue) :
    zgz now l l.length 0 p d ⟨false, false⟩ [] = some (now, (l.foldl zwe (p, ⟨false, false⟩, [])).1, d, (l.foldl zwe (p, ⟨false, false⟩, [])).2.2) := by
  rw [zgz]
  have := zk3 (F := fun s : Int × (List Asked) × Int × Int × za × za × (A2 Bool) × (List Asked) => (zfn s.1 s.2.1 s.2.2.1 s.2.2.2.1 s.2.2.2.2.1 s.2.2.2.2.2.1 s.2.2.2.2.2.2.1 s.2.2.2.2.2.2.2).run) l default
    (fun i (t : za × A2 Bool × List Asked) => (now, l, (l.length : Int), (i : Int), t.1, d, t.2.1, t.2.2)) (zabv p0) zwe (fun t => (now, t.1, d, t.2.2)) (by
      intro t _
      simp only [zfn]
      rw [Tr.run_false (by simp), Tr.run_leaf]) (by
      intro i t hi hI
      obtain ⟨a1, a2⟩ := ha _ (zhw (l := l) (k := i) hi default)
      have hfit := zarz hI.1 a1
      refine ⟨?_, z9v hI hfit.c a2⟩
      have hlen := hI.2.1
      simp only [zfn, Int.toNat_natCast]
      rw [Tr.run_true (by simpa using hi), Tr.run_guard ⟨by omega, by show (i : Int) < (l.length : Nat); omega⟩, Tr.run_guard hfit.c]
      unfold zwe
      by_cases hw : t.2.1.get (l.getD i default).C = true
      · rw [if_pos hw, Tr.run_true hw, Tr.run_true (show true = true from rfl), Tr.run_true (show true = true from rfl), Tr.run_true (show true = true from rfl)]
        rw [Tr.run_guard hfit.c, Tr.run_guard (by show (t.2.2.length + 1) * 88 ≤ _; omega), Tr.run_leaf, z5 (by omega)]
      · rw [if_neg hw, Tr.run_false (Bool.eq_false_iff.2 hw), Tr.run_bind (zary hfit)]
        simp only []
        by_cases hd : (z07 t.1 (l.getD i default)).2 = true
        · rw [if_pos hd, Tr.run_false (by rw [hd]; rfl), Tr.run_leaf, z5 (by omega)]
        · rw [if_neg hd, Tr.run_true (by rw [Bool.eq_false_iff.2 hd]; rfl), Tr.run_guard hfit.c, Tr.run_guard (by show (t.2.2.length + 1) * 88 ≤ _; omega), Tr.run_leaf, z5 (by omega)]) (p, ⟨false, false⟩, []) ⟨hp, by simp, fun c hc => by rcases (show c = 0 ∨ c = 1 by omega) with rfl | rfl <;> rfl, fun b hb => by cases hb⟩
  exact this
end Go.Proofs.YtmakmlnfbdablaaGreat.Ab
namespace Go.Proofs.YtmakmlnfbdablaaGreat.Ab
open Go Go.RowKit
set_option linter.unusedVariables false
set_option linter.unusedSimpArgs false
def dOf (p : za) (c : Int) : List Power := zx7 (fP (p.Links.Told.get c)) (fP p.Set)
def pkOf (p : za) (c : Int) : Packet := ⟨1, p.Height, 0, 0, dOf p c, p.Links.Done.get c⟩
def zp2 (p : za) (c now : Int) : ze0 × Int := z9a (zi2 p.Links c) (zhc (pkOf p c)).1 (now + 40)
def zanf (p : za) (c now : Int) : za :=
  { p with Links := { p.Links with Told := p.Links.Told.set c p.Set, Fresh := p.Links.Fresh.set c false, Done := p.Links.Done.set c [], Said := p.Links.Said.set c (zp2 p c now).1.Said, Due := p.Links.Due.set c (zp2 p c now).1.Due, Got := p.Links.Got.set c (zp2 p c now).1.Got, Closed := p.Links.Closed.set c (zp2 p c now).1.Closed } }
def z2w (p : za) (c : Int) : Prop := p.Links.On.get c = false ∨ (dOf p c = [] ∧ p.Links.Done.get c = [] ∧ p.Links.Fresh.get c = false)
instance (p : za) (c : Int) : Decidable (z2w p c) := by
  have : Decidable (dOf p c = []) := decidable_of_iff ((dOf p c).length = 0) List.length_eq_zero_iff
  have : Decidable (p.Links.Done.get c = []) := decidable_of_iff ((p.Links.Done.get c).length = 0) List.length_eq_zero_iff
  exact inferInstanceAs (Decidable (_ ∨ _))
def zd6 (p : za) (c now : Int) : za :=
  if z2w p c then p else if (zhc (pkOf p c)).2 ≠ 0 then p else if (zp2 p c now).2 ≠ 0 then p else zanf p c now
structure z9w (p : za) (c : Int) : Prop where
  t : (p.Links.Told.get c).length ≤ 9223372036854775807
  s : p.Set.length ≤ 6
  d : (p.Links.Done.get c).length ≤ 6
  u : (p.Links.Due.get c).length ≤ 9223372036854775807
theorem quiet_iff {p : za} {c : Int} : z2w p c ↔ p.Links.On.get c = false ∨ ((dOf p c).length = 0 ∧ (p.Links.Done.get c).length = 0 ∧ p.Links.Fresh.get c = false) := by
  unfold z2w; rw [List.length_eq_zero_iff, List.length_eq_zero_iff]
theorem zze {l : List Power} (h : l.length ≤ 6) : zaj l = some l := by
  rw [zaj, zci]
  refine Tr.run_split (fun h0 => ?_) (fun _ => ?_) (.inr trivial)
  · rw [Tr.run_leaf, List.length_eq_zero_iff.1 h0]
  · rw [Tr.run_guard (by simp only [zbt, List.length_nil]; omega), Tr.run_leaf]
theorem zakk {p : za} {c now : Int} (hf : z9w p c) (hc : 0 ≤ c ∧ c < 2) (hn : 0 ≤ now ∧ now ≤ 1099511627776) : zjb c now p = some (zd6 p c now) := by
  obtain ⟨ft, fs, fd, fu⟩ := hf
  have hdl : (dOf p c).length ≤ 6 := zagl _ _
  have hD : zem (p.Links.Told.get c) p.Set = some (dOf p c) := zamy ft (by omega)
  have hE : zbl (⟨1, p.Height, 0, 0, dOf p c, p.Links.Done.get c⟩ : Packet) = some (zhc (pkOf p c)) := z5a (by show (dOf p c).length * 16 ≤ _; omega) (by show (p.Links.Done.get c).length * 8 ≤ _; omega)
  rw [zjb, zks, Tr.run_guard hc, Tr.run_guard (by rw [hD]; rfl), hD]
  simp only [Option.getD_some]
  unfold zd6
  by_cases hq : z2w p c
  · rw [if_pos hq, Tr.run_true (by
      rw [quiet_iff] at hq
      simp only [Bool.or_eq_true, Bool.and_eq_true, Bool.not_eq_true', beq_iff_eq]
      rcases hq with h | ⟨h1, h2, h3⟩
      · exact .inl h
      · exact .inr ⟨⟨by omega, h3⟩, by omega⟩), Tr.run_leaf]
  · rw [if_neg hq, Tr.run_false (by
      rw [Bool.eq_false_iff]
      intro h
      simp only [Bool.or_eq_true, Bool.and_eq_true, Bool.not_eq_true', beq_iff_eq] at h
      refine hq (quiet_iff.2 ?_)
      rcases h with h | ⟨⟨h1, h2⟩, h3⟩
      · exact .inl h
      · exact .inr ⟨by omega, by omega, h2⟩), Tr.run_guard (by rw [hE]; rfl), hE]
    simp only [Option.getD_some]
    by_cases he : (zhc (pkOf p c)).2 ≠ 0
    · rw [if_pos he, Tr.run_true (by simpa using he), Tr.run_leaf]
    · rw [if_neg he, Tr.run_false (by simpa using he), zj (x := now + 40) (by omega) (by omega), Tr.run_bind (zaom _ _ _)]
      by_cases hs : (zp2 p c now).2 ≠ 0
      · rw [if_pos hs, Tr.run_true (by simpa [zp2] using hs), Tr.run_leaf]
      · rw [if_neg hs, Tr.run_false (by simpa [zp2] using hs), Tr.run_guard (by rw [zze fs]; rfl), Tr.run_leaf, zze fs]
        rfl
def znb (p : za) (now : Int) : za := { p with Height := p.Height + 1, Time := now, Meter := z9t p.Meter (allP p.Set) now }
def zfr (p : za) (now : Int) : za × A2 Bool × List Asked := p.Queue.foldl zwe (znb p now, ⟨false, false⟩, [])
def znm (p : za) (now : Int) : za :=
  { (zfr p now).1 with Stake := (z6r (zfr p now).1.Stake now).1, Set := setS (z6r (zfr p now).1.Stake now).1, Queue := (zfr p now).2.2 }
def zli (p : za) (now : Int) : za × List Int × Int :=
  if zal p = true ∧ p.Time ≤ now ∧ now ≤ 1099511627776 then (zd6 (zd6 (znm p now) 0 now) 1 now, (z6r (zfr p now).1.Stake now).2.1, 0) else (p, [], 2)
theorem z08 (l : List Power) : i64 (allP l) := by
  have : ∀ (l : List Power) (t : Int), i64 t → i64 (l.foldl (fun t p => IntKind.i64.wrap (t + p.N)) t) := by
    intro l
    induction l with
    | nil => intro t ht; exact ht
    | cons q l ih => intro t _; exact ih _ (by show i64 (IntKind.i64.wrap (t + q.N)); rw [IntKind.wrap_i64]; unfold i64; omega)
  exact this l 0 (by unfold i64; omega)
theorem z5r {p : za} {now : Int} (hg : zal p = true) : DealI (znb p now) (znb p now) := by
  obtain ⟨g1, _, _, k0, k1, _⟩ := zjp hg
  unfold okLk at k0 k1
  simp only [Bool.and_eq_true] at k0 k1
  exact ⟨p.Stake, p.Links.Done, z9t p.Meter (allP p.Set) now, rfl, g1, k0.2, k1.2⟩
theorem zafn {p0 : za} : ∀ (l : List Asked) (i : Nat) (t : za × A2 Bool × List Asked), zabv p0 i t → (∀ a, a ∈ l → (0 ≤ a.C ∧ a.C < 2) ∧ a ∈ p0.Queue) → zabv p0 (i + l.length) (l.foldl zwe t)
  | [], i, t, h, _ => h
  | a :: l, i, t, h, ha => by
    have := zafn l (i + 1) (zwe t a) (z9v h (ha a (List.mem_cons_self ..)).1 (ha a (List.mem_cons_self ..)).2) (fun b hb => ha b (List.mem_cons_of_mem _ hb))
    rw [List.foldl_cons, List.length_cons, show i + (l.length + 1) = i + 1 + l.length by omega]
    exact this
theorem zadx {p : za} (hg : zal p = true) : ∀ a, a ∈ p.Queue → zxb p a = true ∧ (0 ≤ a.C ∧ a.C < 2) := by
  intro a ha
  have h := List.all_eq_true.1 (zjp hg).2.2.2.2.2 a ha
  refine ⟨h, ?_⟩
  unfold zxb at h
  simp only [Bool.and_eq_true, decide_eq_true_eq] at h
  exact h.1.1.1
theorem z09 {p : za} {now : Int} (hg : zal p = true) : zabv (znb p now) p.Queue.length (zfr p now) := by
  have := zafn (p0 := znb p now) p.Queue 0 (znb p now, ⟨false, false⟩, []) ⟨z5r hg, by simp, fun c hc => by rcases (show c = 0 ∨ c = 1 by omega) with rfl | rfl <;> rfl, fun b hb => by cases hb⟩ (fun a ha => ⟨(zadx hg a ha).2, ha⟩)
  rwa [Nat.zero_add] at this
theorem zafo {p : za} (hf : FitPr 140737488351232 p) {now : Int} (hg : zal p = true) (c : Int) : z9w (znm p now) c := by
  have hq := z09 (now := now) hg
  obtain ⟨S, D, M, e, hS, d0, d1⟩ := hq.1
  have ht := hf.told c
  have hu := hf.due c
  refine ⟨?_, z41 _, ?_, ?_⟩
  · show ((zfr p now).1.Links.Told.get c).length ≤ _
    rw [e]; show (p.Links.Told.get c).length ≤ _; omega
  · show ((zfr p now).1.Links.Done.get c).length ≤ 6
    exact z3l hq.1.get
  · show ((zfr p now).1.Links.Due.get c).length ≤ _
    rw [e]; show (p.Links.Due.get c).length ≤ _; omega
theorem zang {p : za} {now : Int} (h : z9w p 1) : z9w (zd6 p 0 now) 1 := by
  unfold zd6
  split
  · exact h
  · split
    · exact h
    · split
      · exact h
      · exact ⟨h.t, h.s, h.d, h.u⟩
theorem zafp {p : za} {now : Int} : (((!zal p) || (decide (now < p.Time))) || (decide (now > 1099511627776))) = !decide (zal p = true ∧ p.Time ≤ now ∧ now ≤ 1099511627776) := by
  rw [Bool.eq_iff_iff]
  simp only [Bool.or_eq_true, Bool.not_eq_true', decide_eq_true_eq, decide_eq_false_iff_not]
  cases zal p <;> simp <;> omega
theorem zag5 {p : za} (hf : FitPr 140737488351232 p) {now : Int} : zcy p now = some (zli p now) := by
  have hset := hf.set
  rw [zcy, zmi, Tr.run_bind (zjo hf)]
  unfold zli
  by_cases hg : zal p = true ∧ p.Time ≤ now ∧ now ≤ 1099511627776
  · obtain ⟨hg1, hg2⟩ := hg
    have hnum := (zjp hg1).2.1
    unfold z2v at hnum
    rw [if_pos ⟨hg1, hg2⟩, Tr.run_false (by rw [zafp, decide_eq_true ⟨hg1, hg2⟩]; rfl), Tr.run_guard (by rw [zaj0 (by omega)]; rfl), zaj0 (by omega)]
    simp only [Option.getD_some]
    rw [Tr.run_guard (by rw [zafj (z08 _)]; rfl), zafj (z08 _), zj (x := p.Height + 1) (by omega) (by omega)]
    simp only [Option.getD_some]
    have hloop := zane (p0 := znb p now) (q := p) (now := now) (d := default) (l := p.Queue) (p := znb p now) (z5r hg1) hf.queue (fun a ha => ⟨(zadx hg1 a ha).1, ha⟩)
    have hinv := z09 (now := now) hg1
    have hgs : GoodS (zfr p now).1.Stake := hinv.1.good
    have hpay := zafd hgs now
    have hz : (z6r (zfr p now).1.Stake now).2.2 = 0 := by rw [zadq hgs]
    rw [Tr.run_bind (show zgz now p.Queue ((p.Queue.length : Nat) : Int) 0 (⟨p.Height + 1, now, p.Stake, p.Set, p.Links, z9t p.Meter (allP p.Set) now, p.Queue⟩ : za) default ⟨false, false⟩ [] = some (now, (zfr p now).1, default, (zfr p now).2.2) from hloop)]
    simp only []
    rw [Tr.run_bind (show zqo (zfr p now).1.Stake now = _ from zawb), Tr.run_false (by rw [hz]; rfl), Tr.run_bind (zawe hpay)]
    have h0 := zakk (now := now) (zafo hf (now := now) hg1 0) (by omega) (by omega)
    have h1 := zakk (now := now) (zang (now := now) (zafo hf (now := now) hg1 1)) (by omega) (by omega)
    rw [Tr.run_bind (v := ((z6r (zfr p now).1.Stake now).2.1, zd6 (zd6 (znm p now) 0 now) 1 now, default)) (by
      show zkv now (z6r (zfr p now).1.Stake now).2.1 0 (znm p now) default = _
      rw [zkv, zb7 (s' := (now, (z6r (zfr p now).1.Stake now).2.1, ((1 : Nat) : Int), zd6 (znm p now) 0 now, default)) (by
          simp only [zfo]
          rw [Tr.run_true (by simp), Tr.run_bind h0, Tr.run_leaf]; rfl),
        zb7 (s' := (now, (z6r (zfr p now).1.Stake now).2.1, ((2 : Nat) : Int), zd6 (zd6 (znm p now) 0 now) 1 now, default)) (by
          simp only [zfo]
          rw [Tr.run_true (by simp)]
          rw [Tr.run_bind (show zjb ((1 : Nat) : Int) now _ = _ from h1), Tr.run_leaf]; rfl),
        zgk (by
          simp only [zfo]
          rw [Tr.run_false (by simp), Tr.run_leaf])]), Tr.run_leaf]
  · rw [if_neg hg, Tr.run_true (by rw [zafp, decide_eq_false hg]; rfl), Tr.run_leaf]
end Go.Proofs.YtmakmlnfbdablaaGreat.Ab
namespace Go.Proofs.YtmakmlnfbdablaaGreat.Ab
open Go Go.RowKit
set_option linter.unusedVariables false
set_option linter.unusedSimpArgs false
theorem z7q : zal zabr = true := by decide
theorem zafq {p : za} {c now : Int} (h : p.Links.On.get c = false) : zd6 p c now = p := by unfold zd6; rw [if_pos (.inl h)]
end Go.Proofs.YtmakmlnfbdablaaGreat.Ab
namespace Go.Proofs.YtmakmlnfbdablaaGreat.Ab
open Go Go.RowKit
set_option linter.unusedVariables false
set_option linter.unusedSimpArgs false
theorem zfz (l : List Asked) : Sl.len (.asked l) = l.length := rfl
theorem zag6 {s : Stake} (hg : GoodS s) {v h : Int} (hv : 0 ≤ v ∧ v < 6) : (zdi s v h 50).2.2 = 0 := by
  unfold zdi
  rw [if_neg (by rw [zwy hg (by omega) hv]; simp), if_neg (by omega)]
theorem zakl {s : Stake} (hg : GoodS s) {v : Int} (hv : 0 ≤ v ∧ v < 6) (hd : s.Validators.Dead.get v = false) : (zaw s v 2).2 = 0 := by
  unfold zaw
  rw [if_neg (by rw [zwy hg (by omega) hv]; simp), if_neg (by omega), if_neg (by rw [hd]; simp), if_neg (by omega)]
theorem zag7 (s : Stake) (v h f : Int) : (zdi s v h f).1.Validators.Dead = s.Validators.Dead := by
  unfold zdi
  repeat' split
  all_goals rfl
def zwf (p : za) (v h : Int) : za × Int :=
  if zal p = false then (p, 2) else if 0 ≤ v ∧ v < 6 then (if 1 ≤ h ∧ h ≤ p.Height then (if p.Stake.Validators.Dead.get v = true then (p, 15) else ({ p with Stake := (zaw (zdi p.Stake v h 50).1 v 2).1 }, 0)) else (p, 2)) else (p, 4)
theorem z5s {p : za} (hf : FitPr 140737488351232 p) {v h : Int} : zif p v h = some (zwf p v h) := by
  rw [zif, zf8, Tr.run_bind (zjo hf)]
  unfold zwf
  cases hg : zal p with
  | false => rw [z05, Tr.run_leaf, if_pos rfl]
  | true =>
    rw [z04, if_neg (by simp)]
    by_cases hv : 0 ≤ v ∧ v < 6
    · rw [Tr.run_false (by simp; omega), if_pos hv]
      by_cases hh : 1 ≤ h ∧ h ≤ p.Height
      · rw [Tr.run_false (by simp; omega), if_pos hh, Tr.run_guard hv]
        cases hd : p.Stake.Validators.Dead.get v with
        | true => rw [Tr.run_true rfl, Tr.run_leaf, if_pos rfl]
        | false =>
          have hs := (zjp hg).1
          rw [Tr.run_false rfl, if_neg (by simp), Tr.run_bind z9n, Tr.run_false (by rw [zag6 hs hv]; rfl), Tr.run_bind zadi, Tr.run_false (by rw [zakl (zq6 hs v h 50) hv (by rw [zag7]; exact hd)]; rfl), Tr.run_leaf]
      · rw [Tr.run_true (by simp; omega), Tr.run_leaf, if_neg hh]
    · rw [Tr.run_true (by simp; omega), Tr.run_leaf, if_neg hv]
def znz (p : za) (c : Int) (s : List UInt8) : za × Int :=
  if zal p = false then (p, 2) else if (0 ≤ c ∧ c < 2) ∧ p.Links.On.get c = true then (if (zax s).2 ≠ 0 then (p, (zax s).2) else if (zax s).1.Kind = 1 then (p, 3) else ({ p with Queue := p.Queue ++ [⟨c, (zax s).1⟩] }, 0)) else (p, 4)
theorem z7r {l : List Asked} (h : l.length * 88 ≤ 140737488351232) : zap l = some l := by
  rw [zap, zdd]
  refine Tr.run_split (fun h0 => ?_) (fun _ => ?_) (.inr trivial)
  · rw [Tr.run_leaf, List.length_eq_zero_iff.1 h0]
  · rw [Tr.run_guard (by simp only [zfz, List.length_nil]; omega), Tr.run_leaf]
theorem zady {p : za} (hf : FitPr 140737488351232 p) {c : Int} {a : ByteArray} (ha : a.size ≤ 140737488355328) : zbd p c a = some (znz p c a.data.toList) := by
  have e1 : zff a = some (zax a.data.toList) := zaa9 (s := a.data.toList) (by have : a.data.toList.length = a.size := rfl; omega)
  have hq := hf.queue
  rw [zbd, zkr, Tr.run_bind e1, Tr.run_bind (zjo hf)]
  simp only [z7r hf.queue, Option.isSome_some, Option.getD_some]
  unfold znz
  cases hg : zal p with
  | false => rw [z05, Tr.run_leaf, if_pos rfl]
  | true =>
    rw [z04, if_neg (by simp), Tr.run_guard (by
      intro h0
      simp only [Bool.or_eq_false_iff, decide_eq_false_iff_not] at h0
      exact ⟨by omega, trivial⟩)]
    by_cases hc : (0 ≤ c ∧ c < 2) ∧ p.Links.On.get c = true
    · rw [if_pos hc, Tr.run_false (by rw [hc.2]; simp; omega)]
      by_cases hd : (zax a.data.toList).2 = 0
      · rw [Tr.run_false (by simpa using hd), if_neg (by simpa using hd)]
        by_cases hk : (zax a.data.toList).1.Kind = 1
        · rw [Tr.run_true (by simpa using hk), if_pos hk, Tr.run_leaf]
        · rw [Tr.run_false (by simpa using hk), if_neg hk, Tr.run_guard (by trivial), Tr.run_guard (by simp only [zfz, List.length_singleton]; omega), Tr.run_leaf]
      · rw [Tr.run_true (by simpa using hd), if_pos hd, Tr.run_leaf]
    · rw [if_neg hc, Tr.run_true (by
        simp only [Bool.or_eq_true, decide_eq_true_eq, Bool.not_eq_true']
        by_cases h1 : 0 ≤ c ∧ c < 2
        · exact .inr (Bool.eq_false_iff.2 (fun h2 => hc ⟨h1, h2⟩))
        · exact .inl (by omega)), Tr.run_leaf]
theorem z5t {p : Packet} (h : zez p = 0) : p.Set.length ≤ 6 ∧ p.Done.length ≤ 6 := by
  obtain ⟨_, _, _, _, _, _, _, _, g9, g10, _⟩ := zlt h
  have l1 := zjy g9 (by omega)
  exact ⟨by omega, z3l g10⟩
theorem zafr {s : List UInt8} (h : (zax s).2 = 0) : zez (zax s).1 = 0 := by
  unfold zax at h ⊢
  split
  · rename_i k; rw [if_pos k] at h; cases h
  · rename_i k
    rw [if_neg k] at h
    split
    · rename_i k2; rw [if_pos k2] at h; exact absurd h k2
    · rename_i k2; exact Classical.not_not.1 k2
end Go.Proofs.YtmakmlnfbdablaaGreat.Ab
namespace Go.Proofs.YtmakmlnfbdablaaGreat.Ab
open Go Go.RowKit
set_option linter.unusedVariables false
set_option linter.unusedSimpArgs false
def zic (L : Links) (c H : Int) (T : List Power) (f : Bool) : Links :=
  ⟨L.On.set c true, L.Gone.set c false, L.Base.set c H, L.Told.set c T, L.Fresh.set c f, L.Done.set c [], L.Said.set c [], L.Due.set c [], L.Got.set c 0, L.Closed.set c false, L.SHeight.set c 0, L.STime.set c 0, L.SSaid.set c 0, L.SGot.set c 0⟩
def zn0 (p : za) (c : Int) (W : List Wait) (f : Bool) : za := { p with Stake := { p.Stake with Waits := W }, Links := zic p.Links c p.Height p.Set f }
def zi3 (c H : Int) (w : Wait) : Wait := if H < w.Height then { w with h0 := if c = 0 then w.Height else w.h0, h1 := if c = 1 then w.Height else w.h1 } else w
def zzf (p : za) : Bool := p.Stake.Waits.any (fun w => decide (p.Height < w.Height))
def zef (p : za) (c : Int) : za × Int :=
  if zal p = false then (p, 2) else if 0 ≤ c ∧ c < 2 then (if p.Links.Gone.get c = true then (p, 11) else if p.Links.On.get c = true then (p, 5) else if p.Height < 1 ∨ p.Set.length = 0 then (p, 13)
    else (zn0 p c (p.Stake.Waits.map (zi3 c p.Height)) (zzf p), 0)) else (p, 4)
theorem zafs {α : Type} (q : α → Bool) : ∀ (l : List α) (b : Bool), l.foldl (fun t w => t || q w) b = (b || l.any q)
  | [], b => by simp
  | a :: l, b => by rw [List.foldl_cons, zafs q l, List.any_cons, Bool.or_assoc]
theorem zag8 {α : Type} (a : A2 α) (c : Int) (x y : α) : (a.set c x).set c y = a.set c y := by
  unfold A2.set
  by_cases h : c = 0
  · subst h; rfl
  · by_cases h1 : c = 1
    · subst h1; rfl
    · simp [h, h1]
theorem zawk {l W : List Wait} {i : Nat} {w : Wait} (hi : i < W.length) (hg : W.getD i default = w) : W.set i w = W := by rw [← hg, z9k hi]
theorem zag9 {p z : za} {c : Int} (hc : 0 ≤ c ∧ c < 2) (hw : p.Stake.Waits.length * 64 ≤ 140737488351232) :
    zie c p.Stake.Waits.length 0 (zn0 p c p.Stake.Waits false) z = some (zn0 p c (p.Stake.Waits.map (zi3 c p.Height)) (zzf p), z) := by
  rw [zie]
  have := z9l (F := fun s : Int × Int × Int × za × za => (zd0 s.1 s.2.1 s.2.2.1 s.2.2.2.1 s.2.2.2.2).run) p.Stake.Waits default
    (fun i W (f : Bool) => (c, (p.Stake.Waits.length : Int), (i : Int), zn0 p c W f, z)) (fun _ _ => True) (zi3 c p.Height) (fun t w => t || decide (p.Height < w.Height)) (fun W f => (zn0 p c W f, z)) ?_ ?_ false trivial
  · rw [zafs] at this
    exact this
  · intro W t hW _
    simp only [zd0]; rw [Tr.run_false (by simp), Tr.run_leaf]
  · intro i W t hi hW hg _
    refine ⟨?_, trivial⟩
    simp only [zd0]
    rw [Int.toNat_natCast, show (zn0 p c W t).Stake.Waits = W from rfl, hg, show (zn0 p c W t).Height = p.Height from rfl]
    generalize hw' : p.Stake.Waits.getD i default = w at hg ⊢
    rw [Tr.run_true (by simpa using hi), Tr.run_guard ⟨by omega, by rw [zcf]; omega⟩]
    by_cases hp : p.Height < w.Height
    · rw [Tr.run_true (by simpa using hp), Tr.run_guard hc, Tr.run_guard hc, Tr.run_leaf, z5 (by omega)]
      have e : zi3 c p.Height w = { w with h0 := if c = 0 then w.Height else w.h0, h1 := if c = 1 then w.Height else w.h1 } := if_pos hp
      rw [e, decide_eq_true hp, Bool.or_true]
      rw [show (zn0 p c W t).Links.Fresh = p.Links.Fresh.set c t from rfl, zag8]
      rfl
    · rw [Tr.run_false (by simpa using hp), Tr.run_leaf, z5 (by omega)]
      have e : zi3 c p.Height w = w := if_neg hp
      rw [e, decide_eq_false hp, Bool.or_false, zawk (l := W) (by omega) hg]
theorem zabw {p : za} (hf : FitPr 140737488351232 p) {c : Int} : zak p c = some (zef p c) := by
  rw [zak, zja, Tr.run_bind (zjo hf)]
  unfold zef
  cases hg : zal p with
  | false => rw [z05, Tr.run_leaf, if_pos rfl]
  | true =>
    rw [z04, if_neg (by simp)]
    by_cases hc : 0 ≤ c ∧ c < 2
    · rw [Tr.run_false (by simp; omega), if_pos hc, Tr.run_guard hc]
      cases h1 : p.Links.Gone.get c with
      | true => rw [Tr.run_true rfl, Tr.run_leaf, if_pos rfl]
      | false =>
        rw [Tr.run_false rfl, if_neg (by simp), Tr.run_guard hc]
        cases h2 : p.Links.On.get c with
        | true => rw [Tr.run_true rfl, Tr.run_leaf, if_pos rfl]
        | false =>
          rw [Tr.run_false rfl, if_neg (by simp)]
          have hs := zjy (zjp hg).2.2.1 (by omega)
          by_cases h3 : p.Height < 1 ∨ p.Set.length = 0
          · rw [if_pos h3, Tr.run_true (by simp only [Bool.or_eq_true, decide_eq_true_eq, beq_iff_eq]; omega), Tr.run_leaf]
          · have hcl := zze (l := p.Set) (by omega)
            rw [if_neg h3, Tr.run_false (by simp only [Bool.or_eq_false_iff, decide_eq_false_iff_not, beq_eq_false_iff_ne]; omega), Tr.run_guard (by rw [hcl]; rfl), Tr.run_guard hc, Tr.run_bind (z02 hf.waits), hcl, Tr.run_bind (v := (zn0 p c (p.Stake.Waits.map (zi3 c p.Height)) (zzf p), default)) (by exact zag9 hc hf.waits), Tr.run_leaf]
    · rw [Tr.run_true (by simp; omega), Tr.run_leaf, if_neg hc]
def zw0 (L : Links) (c : Int) : Links := { L with On := L.On.set c false, Gone := L.Gone.set c true, Fresh := L.Fresh.set c false, Done := L.Done.set c [], Closed := L.Closed.set c true }
def z3m (c : Int) (a : Asked) : Bool := a.C != c
def ztw (p : za) (c : Int) : za := { p with Stake := zq3 p.Stake c 1099511627776, Links := zw0 p.Links c, Queue := p.Queue.filter (z3m c) }
def ztx (p : za) (c : Int) : za := if zal p = true ∧ (0 ≤ c ∧ c < 2) ∧ p.Links.On.get c = true then ztw p c else p
theorem zaor (a : Asked) (c : Int) : ze5 a c = some (!z3m c a, c) := by
  rw [ze5, zf7, Tr.run_leaf]
  unfold z3m
  simp [bne]
theorem zlw {α : Type} {l : List α} {i : Nat} (h : i < l.length) (d : α) : l.take (i + 1) = l.take i ++ [l.getD i d] := by
  rw [List.take_succ_eq_append_getElem h, zsn h]
theorem zaha {l : List Asked} {c : Int} (hl : l.length * 88 ≤ 140737488351232) :
    ∃ r, zbz l.length 0 c l = some r ∧
      (match r with | .inl y => ∃ k : Nat, y = ((k : Int), c, l) ∧ k < l.length ∧ (l.take k).all (z3m c) = true ∧ z3m c (l.getD k default) = false | .inr y => y = (c, l) ∧ l.all (z3m c) = true) := by
  rw [zbz]
  have := zhb (F := fun s : Int × Int × Int × (List Asked) => (zad s.1 s.2.1 s.2.2.1 s.2.2.2).run) l.length (fun i (_ : Unit) => ((l.length : Int), (i : Int), c, l)) (fun i _ => (l.take i).all (z3m c) = true)
    (fun i _ r => match r with | .inl y => ∃ k : Nat, y = ((k : Int), c, l) ∧ k < l.length ∧ (l.take k).all (z3m c) = true ∧ z3m c (l.getD k default) = false | .inr y => y = (c, l) ∧ l.all (z3m c) = true) ?_ ?_ 0 () (Nat.zero_le _) rfl
  · exact this
  · intro t h
    refine ⟨.inr (c, l), ?_, rfl, by rwa [List.take_length] at h⟩
    simp only [zad]; rw [Tr.run_false (by simp), Tr.run_leaf]
  · intro i t hi h
    simp only [zad]
    rw [Int.toNat_natCast, Tr.run_true (by simpa using hi), Tr.run_guard ⟨by omega, by rw [zfz]; omega⟩, Tr.run_bind (zaor _ _)]
    cases hn : z3m c (l.getD i default) with
    | true => exact .inl ⟨(), by rw [Tr.run_false (by rfl), Tr.run_leaf, z5 (by omega)], by rw [zlw hi default, List.all_append, h, List.all_cons, hn]; rfl, fun r hr => hr⟩
    | false => exact .inr ⟨.inl ((i : Int), c, l), by rw [Tr.run_true (by rfl), Tr.run_leaf], i, rfl, hi, h, hn⟩
theorem zadz {l : List Asked} {c : Int} (hl : l.length * 88 ≤ 140737488351232) {k : Nat} (hk : k < l.length) (ha : (l.take k).all (z3m c) = true) (hn : z3m c (l.getD k default) = false) :
    ∃ r, zb4 k ((k + 1 : Nat) : Int) c l = some r ∧ ∃ n : Nat, r.1 = n ∧ r.2.1 = c ∧ n ≤ l.length ∧ r.2.2.length = l.length ∧ r.2.2.take n = l.filter (z3m c) := by
  rw [zb4]
  have := zhb (F := fun s : Int × Int × Int × (List Asked) => (zah s.1 s.2.1 s.2.2.1 s.2.2.2).run) l.length (fun i (t : Nat × List Asked) => ((t.1 : Int), (i : Int), c, t.2)) (fun i t => t.1 < i ∧ t.2.length = l.length ∧ t.2.take t.1 = (l.take i).filter (z3m c) ∧ t.2.drop i = l.drop i)
    (fun i _ r => ∃ n : Nat, r.1 = n ∧ r.2.1 = c ∧ n ≤ l.length ∧ r.2.2.length = l.length ∧ r.2.2.take n = l.filter (z3m c)) ?_ ?_ (k + 1) (k, l) (by omega) ⟨by omega, rfl, ?_, rfl⟩
  · exact this
  · rintro ⟨n, W⟩ ⟨h1, h2, h3, h4⟩
    simp only at h1 h2 h3 h4
    refine ⟨((n : Int), c, W), ?_, n, rfl, rfl, by omega, h2, by rw [h3, List.take_length]⟩
    simp only [zah]; rw [Tr.run_false (by simp; omega), Tr.run_leaf]
  · rintro i ⟨n, W⟩ hi ⟨h1, h2, h3, h4⟩
    simp only at h1 h2 h3 h4
    have hg : W.getD i default = l.getD i default := by
      have e1 := zbp (l := W) (k := i) (by omega) default
      have e2 := zbp (l := l) (k := i) hi default
      rw [h4, e2] at e1
      exact (List.cons.inj e1).1.symm
    have hd : W.drop (i + 1) = l.drop (i + 1) := by
      have e1 := zbp (l := W) (k := i) (by omega) default
      have e2 := zbp (l := l) (k := i) hi default
      rw [h4, e2] at e1
      exact (List.cons.inj e1).2.symm
    simp only [zah]
    rw [Int.toNat_natCast, Int.toNat_natCast, hg, Tr.run_true (by simp; omega), Tr.run_guard ⟨by omega, by rw [zfz]; omega⟩, Tr.run_bind (zaor _ _)]
    cases hq : z3m c (l.getD i default) with
    | true =>
      refine .inl ⟨(n + 1, W.set n (l.getD i default)), by rw [Tr.run_true (by rfl), Tr.run_guard ⟨by omega, by rw [zfz]; omega⟩, Tr.run_leaf, z5 (by omega), z5 (by omega)], ⟨by simp only []; omega, by simp only [List.length_set]; exact h2, ?_, ?_⟩, fun r hr => hr⟩
      · simp only []
        rw [zlw (by rw [List.length_set]; omega) default, List.take_set_of_le (by omega), h3, zlw hi default, List.filter_append, zsn (by rw [List.length_set]; omega), List.getElem_set_self, List.filter_cons, hq]
        rfl
      · simp only []
        rw [List.drop_set_of_lt (by omega), hd]
    | false =>
      refine .inl ⟨(n, W), by rw [Tr.run_false (by rfl), Tr.run_leaf, z5 (by omega)], ⟨by simp only []; omega, h2, ?_, hd⟩, fun r hr => hr⟩
      simp only []
      rw [h3, zlw hi default, List.filter_append, List.filter_cons, hq]
      simp
  · simp only []
    rw [zlw hk default, List.filter_append, List.filter_cons, hn, List.filter_eq_self.2 (fun a h => List.all_eq_true.1 ha a h)]
    simp
theorem zahb {l : List Asked} {c : Int} (hl : l.length * 88 ≤ 140737488351232) : zcx c l = some (c, l.filter (z3m c)) := by
  have hi : zbf c l = some (-1, c, l) ∧ l.all (z3m c) = true ∨ ∃ k : Nat, zbf c l = some ((k : Int), c, l) ∧ k < l.length ∧ (l.take k).all (z3m c) = true ∧ z3m c (l.getD k default) = false := by
    obtain ⟨r, h1, h2⟩ := zaha (c := c) hl
    rw [zbf, zbj]
    cases r with
    | inl y =>
      obtain ⟨k, rfl, h3, h4, h5⟩ := h2
      exact .inr ⟨k, by rw [Tr.run_inl h1, Tr.run_leaf], h3, h4, h5⟩
    | inr y =>
      obtain ⟨rfl, h3⟩ := h2
      exact .inl ⟨by rw [Tr.run_inr h1, Tr.run_leaf], h3⟩
  rw [zcx, zbr]
  rcases hi with ⟨h1, h2⟩ | ⟨k, h1, h2, h3, h4⟩
  · rw [Tr.run_bind h1, Tr.run_true (by rfl), Tr.run_leaf, List.filter_eq_self.2 (fun a h => List.all_eq_true.1 h2 a h)]
  · obtain ⟨r, k1, n, k2, k3, k4, k5, k6⟩ := zadz hl h2 h3 h4
    have hcl : zaan r.2.2 r.1 = some (r.2.2.take n ++ List.replicate (r.2.2.length - n) default) := by
      unfold zaan
      rw [k2, if_pos (by omega), Int.toNat_natCast]
    have hlt : (r.2.2.take n).length = n := by rw [List.length_take]; omega
    rw [Tr.run_bind h1, Tr.run_false (by simp), z5 (by omega), Tr.run_bind k1, Tr.run_bind hcl, k2, Tr.run_guard ⟨by omega, by rw [zfz, List.length_append, hlt]; omega⟩, Tr.run_leaf, k3, Int.toNat_natCast, List.drop_zero, Nat.sub_zero, List.take_left' hlt, k6]
theorem z9x {p : za} (hf : FitPr 140737488351232 p) {c : Int} : zdh p c = some (ztx p c) := by
  rw [zdh, zhv, Tr.run_bind (zjo hf)]
  unfold ztx
  rw [Tr.run_guard (by
    intro h0
    simp only [Bool.or_eq_false_iff, decide_eq_false_iff_not] at h0
    exact ⟨by omega, trivial⟩)]
  by_cases h : zal p = true ∧ (0 ≤ c ∧ c < 2) ∧ p.Links.On.get c = true
  · obtain ⟨h1, h2, h3⟩ := h
    rw [if_pos ⟨h1, h2, h3⟩, Tr.run_false (by rw [h1, h3]; simp; omega), Tr.run_guard h2, Tr.run_guard h2, Tr.run_guard h2, Tr.run_guard h2, Tr.run_guard h2, Tr.run_bind (z1t hf.waits), Tr.run_bind (z7r hf.queue), Tr.run_bind (zahb hf.queue), Tr.run_leaf]
    rfl
  · rw [if_neg h, Tr.run_true (by
      simp only [Bool.or_eq_true, decide_eq_true_eq, Bool.not_eq_true']
      cases h1 : zal p with
      | false => exact .inl (.inl (.inl rfl))
      | true =>
        by_cases h2 : 0 ≤ c ∧ c < 2
        · exact .inr (Bool.eq_false_iff.2 (fun h3 => h ⟨h1, h2, h3⟩))
        · exact .inl (by omega)), Tr.run_leaf]
end Go.Proofs.YtmakmlnfbdablaaGreat.Ab
namespace Go.Proofs.YtmakmlnfbdablaaGreat.Ab
open Go Go.RowKit
set_option linter.unusedVariables false
set_option linter.unusedSimpArgs false
theorem zabx {α : Type} {P : α → Prop} {a : A2 α} (h0 : P (a.get 0)) (h1 : P (a.get 1)) (c : Int) : P (a.get c) := by
  by_cases h : c = 0
  · rw [h]; exact h0
  · have : a.get c = a.get 1 := by unfold A2.get; rw [if_neg h]; rfl
    rw [this]; exact h1
theorem z5u {m : Int} : ∀ {l : List Power} {p : Int}, (∀ q, q ∈ l → p < q.V ∧ q.V ≤ 5 ∧ m ≤ q.N ∧ q.N ≤ 1125899906842624) → l.Pairwise (fun a b => a.V < b.V) → zy m p l = true
  | [], p, _, _ => rfl
  | q :: l, p, h1, h2 => by
    have hq := h1 q (List.mem_cons_self ..)
    rw [List.pairwise_cons] at h2
    simp only [zy, Bool.and_eq_true, decide_eq_true_eq]
    exact ⟨⟨⟨⟨hq.1, hq.2.1⟩, hq.2.2.1⟩, hq.2.2.2⟩, z5u (fun x hx => ⟨h2.1 x hx, (h1 x (List.mem_cons_of_mem _ hx)).2⟩) h2.2⟩
theorem zawl {s : Stake} (hg : GoodS s) : zy 1 (-1) (setS s) = true := by
  refine z5u (fun q hq => ?_) (zwc _)
  obtain ⟨hv, _, hn, h1⟩ := zam2 hg hq
  have := (hg.at hv).1.1
  unfold inA at this
  omega
def GoodX (p : za) : Prop := GoodS p.Stake ∧ (0 ≤ p.Height ∧ 0 ≤ p.Time ∧ p.Time ≤ 1099511627776) ∧ zy 1 (-1) p.Set = true ∧ okLk p 0 = true ∧ okLk p 1 = true ∧ p.Queue.all (zxb p) = true
theorem goodPr_iff {p : za} : zal p = true ↔ GoodX p ∧ p.Height < 1099511627776 := by
  constructor
  · intro h
    obtain ⟨a, ⟨b1, b2, b3, b4⟩, c, d, e, f⟩ := zjp h
    exact ⟨⟨a, ⟨b1, b3, b4⟩, c, d, e, f⟩, b2⟩
  · rintro ⟨⟨a, ⟨b1, b3, b4⟩, c, d, e, f⟩, b2⟩
    unfold zal
    simp only [Bool.and_eq_true, decide_eq_true_eq]
    exact ⟨⟨⟨⟨⟨a, b1, b2, b3, b4⟩, c⟩, d⟩, e⟩, f⟩
structure LkX (p : za) (c : Int) : Prop where
  on : ¬ (p.Links.On.get c = true ∧ p.Links.Gone.get c = true)
  b0 : 0 ≤ p.Links.Base.get c
  b1 : p.Links.Base.get c ≤ p.Height
  told : zy 1 (-1) (p.Links.Told.get c) = true
  line : zet (zi2 p.Links c)
  done : zan (-1) (p.Links.Done.get c) = true
theorem okLk_iff {p : za} {c : Int} : okLk p c = true ↔ LkX p c := by
  unfold okLk
  simp only [Bool.and_eq_true, decide_eq_true_eq]
  constructor
  · rintro ⟨⟨⟨⟨⟨h1, h2⟩, h3⟩, h4⟩, h5⟩, h6⟩
    exact ⟨fun ⟨x, y⟩ => (by rw [x, y] at h1; cases h1), h2, h3, h4, h5, h6⟩
  · rintro ⟨h1, h2, h3, h4, h5, h6⟩
    refine ⟨⟨⟨⟨⟨?_, h2⟩, h3⟩, h4⟩, h5⟩, h6⟩
    cases x : p.Links.On.get c
    · rfl
    · cases y : p.Links.Gone.get c
      · rfl
      · exact absurd ⟨x, y⟩ h1
theorem GoodX.lk {p : za} (h : GoodX p) {c : Int} (hc : 0 ≤ c ∧ c < 2) : LkX p c := by
  rcases (show c = 0 ∨ c = 1 by omega) with rfl | rfl
  · exact okLk_iff.1 h.2.2.2.1
  · exact okLk_iff.1 h.2.2.2.2.1
theorem ask_iff {p : za} {a : Asked} : zxb p a = true ↔ (0 ≤ a.C ∧ a.C < 2) ∧ p.Links.On.get a.C = true ∧ zez a.P = 0 ∧ a.P.Kind ≠ 1 := by
  unfold zxb
  simp only [Bool.and_eq_true, decide_eq_true_eq, beq_iff_eq, Bool.not_eq_true', beq_eq_false_iff_ne]
  constructor
  · rintro ⟨⟨⟨⟨c0, c1⟩, c2⟩, c3⟩, c4⟩; exact ⟨⟨c0, c1⟩, c2, c3, c4⟩
  · rintro ⟨⟨c0, c1⟩, c2, c3, c4⟩; exact ⟨⟨⟨⟨c0, c1⟩, c2⟩, c3⟩, c4⟩
theorem GoodX.ask {p : za} (h : GoodX p) {a : Asked} (ha : a ∈ p.Queue) : (0 ≤ a.C ∧ a.C < 2) ∧ p.Links.On.get a.C = true ∧ zez a.P = 0 ∧ a.P.Kind ≠ 1 := ask_iff.1 (List.all_eq_true.1 h.2.2.2.2.2 a ha)
theorem fitX {p : za} (h : GoodX p) {R : Nat} (hR : 100000 ≤ R) (hq : p.Queue.length * 88 ≤ R) : FitPr R p := by
  have l0 := h.lk (c := 0) (by omega)
  have l1 := h.lk (c := 1) (by omega)
  have lp : ∀ {l : List Power}, zy 1 (-1) l = true → l.length * 16 ≤ R := fun hl => by have := zjy hl (by omega); omega
  have ld : ∀ {l : List Int}, zan (-1) l = true → l.length * 8 ≤ R := fun hl => by have := z3l hl; omega
  have lS : ∀ {c : Int}, LkX p c → (p.Links.Said.get c).length ≤ 400 ∧ (p.Links.Due.get c).length ≤ 400 := by
    intro c l
    have e1 : (p.Links.Said.get c).length = (p.Links.Due.get c).length := l.line.1
    have e2 : (p.Links.Said.get c).length ≤ 400 := l.line.2.1
    omega
  have s0 := lS l0
  have s1 := lS l1
  have hw : p.Stake.Waits.length ≤ 60 := h.1.2.1.2.2
  have t0 := lp l0.told; have t1 := lp l1.told; have d0 := ld l0.done; have d1 := ld l1.done
  have hset := lp h.2.2.1
  have hask := fun a ha => z5t (h.ask (a := a) ha).2.2.1
  have hw' : p.Stake.Waits.length * 64 ≤ R := by omega
  have a0 : (p.Links.Said.get 0).length * 16 ≤ R := by omega
  have a1 : (p.Links.Said.get 1).length * 16 ≤ R := by omega
  have b0 : (p.Links.Due.get 0).length * 8 ≤ R := by omega
  have b1 : (p.Links.Due.get 1).length * 8 ≤ R := by omega
  have hps : ∀ a, a ∈ p.Queue → a.P.Set.length * 16 ≤ R ∧ a.P.Done.length * 8 ≤ R := fun a ha => by have := hask a ha; omega
  exact ⟨hw', hset, fun c => zabx (P := fun l : List Power => l.length * 16 ≤ R) (a := p.Links.Told) t0 t1 c, fun c => zabx (P := fun l : List Int => l.length * 8 ≤ R) (a := p.Links.Done) d0 d1 c,
    fun c => zabx (P := fun l : List ByteArray => l.length * 16 ≤ R) (a := p.Links.Said) a0 a1 c, fun c => zabx (P := fun l : List Int => l.length * 8 ≤ R) (a := p.Links.Due) b0 b1 c, hq, hps⟩
theorem zahc {l : ze0} {s : ByteArray} {u : Int} (h : zet l) (hu : 0 ≤ u) : zet (z9a l s u).1 := by
  unfold z9a
  rw [if_neg (by rintro (k | k); exact k h; omega)]
  split
  · exact h
  · split
    · exact h
    · rename_i h4
      obtain ⟨g1, g2, g3, g4, g5⟩ := h
      refine ⟨by simp [g1], by simp only [List.length_append, List.length_singleton]; omega, g3, by simp only [List.length_append, List.length_singleton]; omega, ?_⟩
      simp only [List.any_append, g5, Bool.false_or, List.any_cons, List.any_nil, Bool.or_false, decide_eq_false_iff_not]
      omega
theorem z3n {p : za} (hg : zal p = true) (now : Int) : ∃ S D M, (zfr p now).1 = upP (znb p now) S D M ∧ GoodS S ∧ (∀ c : Int, zan (-1) (D.get c) = true) ∧ (zfr p now).2.2.length ≤ p.Queue.length ∧ ∀ b, b ∈ (zfr p now).2.2 → b ∈ p.Queue := by
  obtain ⟨⟨S, D, M, e, hS, d0, d1⟩, hq2, hq3, hq4⟩ := z09 (now := now) hg
  exact ⟨S, D, M, e, hS, zabx (P := fun l => zan (-1) l = true) d0 d1, hq2, hq4⟩
theorem zaby {p : za} (hg : zal p = true) {now : Int} (hn : p.Time ≤ now ∧ now ≤ 1099511627776) : GoodX (znm p now) := by
  obtain ⟨S, D, M, e, hS, hd, hl, hm⟩ := z3n hg now
  have hx := (goodPr_iff.1 hg).1
  have hp := zafd hS now
  have hn0 := hx.2.1
  unfold znm
  rw [e]
  refine ⟨hp, ⟨by show 0 ≤ p.Height + 1; omega, by show 0 ≤ now; omega, hn.2⟩, zawl hp, okLk_iff.2 ?_, okLk_iff.2 ?_, List.all_eq_true.2 fun b hb => ?_⟩
  · obtain ⟨a1, a2, a3, a4, a5, a6⟩ := hx.lk (c := 0) (by omega)
    exact ⟨a1, a2, by show p.Links.Base.get 0 ≤ p.Height + 1; omega, a4, a5, hd 0⟩
  · obtain ⟨a1, a2, a3, a4, a5, a6⟩ := hx.lk (c := 1) (by omega)
    exact ⟨a1, a2, by show p.Links.Base.get 1 ≤ p.Height + 1; omega, a4, a5, hd 1⟩
  · exact ask_iff.2 (hx.ask (hm b hb))
theorem zss (p : za) (c now : Int) : (zd6 p c now).Height = p.Height ∧ (zd6 p c now).Time = p.Time ∧ (zd6 p c now).Stake = p.Stake ∧ (zd6 p c now).Set = p.Set ∧ (zd6 p c now).Meter = p.Meter ∧ (zd6 p c now).Queue = p.Queue ∧
    (zd6 p c now).Links.On = p.Links.On ∧ (zd6 p c now).Links.Gone = p.Links.Gone ∧ (zd6 p c now).Links.Base = p.Links.Base ∧ (zd6 p c now).Links.SHeight = p.Links.SHeight ∧ (zd6 p c now).Links.STime = p.Links.STime ∧ (zd6 p c now).Links.SSaid = p.Links.SSaid ∧ (zd6 p c now).Links.SGot = p.Links.SGot := by
  unfold zd6
  repeat' split
  all_goals exact ⟨rfl, rfl, rfl, rfl, rfl, rfl, rfl, rfl, rfl, rfl, rfl, rfl, rfl⟩
theorem z7s {p : za} {c j now : Int} (hc : 0 ≤ c ∧ c < 2) (hj : 0 ≤ j ∧ j < 2) (h : j ≠ c) : (zd6 p c now).Links.Told.get j = p.Links.Told.get j ∧ (zd6 p c now).Links.Fresh.get j = p.Links.Fresh.get j ∧ (zd6 p c now).Links.Done.get j = p.Links.Done.get j ∧ zi2 (zd6 p c now).Links j = zi2 p.Links j := by
  unfold zd6
  repeat' split
  · exact ⟨rfl, rfl, rfl, rfl⟩
  · exact ⟨rfl, rfl, rfl, rfl⟩
  · exact ⟨rfl, rfl, rfl, rfl⟩
  · unfold zanf zi2
    simp only [zar _ _ hc hj, if_neg h]
    exact ⟨trivial, trivial, trivial, trivial⟩
theorem zawm {p : za} {c : Int} (hs : zy 1 (-1) p.Set = true) : zy 0 (-1) (dOf p c) = true := by
  have hb : ∀ v : Nat, 0 ≤ fP p.Set v ∧ fP p.Set v ≤ 1125899906842624 := by
    intro v
    unfold fP
    have hm := zoy (by omega) hs (by omega)
    revert hm
    generalize p.Set = l
    intro hm
    induction l with
    | nil => simp [zee]
    | cons q l ih =>
      simp only [zee]
      split
      · have := hm q (List.mem_cons_self ..); omega
      · exact ih (fun q hq => hm q (List.mem_cons_of_mem _ hq))
  unfold dOf
  generalize fP p.Set = g at hb
  generalize fP (p.Links.Told.get c) = f
  have hm : ∀ q, q ∈ zx7 f g → ∃ v : Nat, v < 6 ∧ q = ⟨v, g v⟩ := by
    intro q hq
    rw [z44] at hq
    simp only [List.mem_append, List.not_mem_nil, or_false] at hq
    have key : ∀ v : Nat, v < 6 → q ∈ z43 (v : Int) (g v) (f v) → ∃ v : Nat, v < 6 ∧ q = ⟨v, g v⟩ := by
      intro v hv h
      unfold z43 at h
      split at h
      · exact ⟨v, hv, List.mem_singleton.1 h⟩
      · cases h
    rcases hq with h | h | h | h | h | h
    · exact key 0 (by omega) h
    · exact key 1 (by omega) h
    · exact key 2 (by omega) h
    · exact key 3 (by omega) h
    · exact key 4 (by omega) h
    · exact key 5 (by omega) h
  refine z5u (fun q hq => ?_) ?_
  · obtain ⟨v, hv, rfl⟩ := hm q hq
    have := hb v
    refine ⟨by show (-1 : Int) < (v : Int); omega, by show (v : Int) ≤ 5; omega, this.1, this.2⟩
  · rw [z44]
    have one : ∀ (v : Int) (x y : Int), (z43 v x y).Pairwise (fun a b => a.V < b.V) := by
      intro v x y; unfold z43; split
      · exact List.pairwise_singleton ..
      · exact .nil
    have mem : ∀ {v x y : Int} {q : Power}, q ∈ z43 v x y → q.V = v := by
      intro v x y q h; unfold z43 at h; split at h
      · rw [List.mem_singleton.1 h]
      · cases h
    refine List.pairwise_append.2 ⟨one _ _ _, List.pairwise_append.2 ⟨one _ _ _, List.pairwise_append.2 ⟨one _ _ _, List.pairwise_append.2 ⟨one _ _ _, List.pairwise_append.2 ⟨one _ _ _, List.pairwise_append.2 ⟨one _ _ _, .nil, ?_⟩, ?_⟩, ?_⟩, ?_⟩, ?_⟩, ?_⟩
    all_goals
      intro a ha b hb
      have k := mem ha
      first
      | (exfalso; cases hb; done)
      | (simp only [List.mem_append, List.not_mem_nil, or_false] at hb
         first
         | (rcases hb with h | h | h | h | h <;> have := mem h <;> omega)
         | (rcases hb with h | h | h | h <;> have := mem h <;> omega)
         | (rcases hb with h | h | h <;> have := mem h <;> omega)
         | (rcases hb with h | h <;> have := mem h <;> omega)
         | (have := mem hb; omega))
theorem zakm {p : za} {c : Int} (hs : zy 1 (-1) p.Set = true) (hd : zan (-1) (p.Links.Done.get c) = true) (hH : 1 ≤ p.Height ∧ p.Height ≤ 1099511627776) : zez (pkOf p c) = 0 := by
  unfold zez pkOf
  simp only []
  rw [if_neg (by omega), if_neg (by omega), if_neg (by omega), zawm hs, hd]
  rfl
theorem zanh {p : za} {c now : Int} (h : GoodX p) (hc : 0 ≤ c ∧ c < 2) (hH : 1 ≤ p.Height ∧ p.Height ≤ 1099511627776) (hn : 0 ≤ now) :
    (zd6 p c now = p ∧ (z2w p c ∨ p.Links.Closed.get c = true ∨ 400 ≤ (p.Links.Said.get c).length)) ∨
    (¬ z2w p c ∧ p.Links.Closed.get c = false ∧ (p.Links.Said.get c).length < 400 ∧ (zd6 p c now).Links = { p.Links with Told := p.Links.Told.set c p.Set, Fresh := p.Links.Fresh.set c false, Done := p.Links.Done.set c [], Said := p.Links.Said.set c (p.Links.Said.get c ++ [txt (zsk (pkOf p c))]), Due := p.Links.Due.set c (p.Links.Due.get c ++ [now + 40]) }) := by
  have lk := h.lk hc
  have hg := zakm (c := c) h.2.2.1 lk.done hH
  unfold zd6
  by_cases hq : z2w p c
  · rw [if_pos hq]; exact .inl ⟨rfl, .inl hq⟩
  · rw [if_neg hq, zm7 hg, if_neg (by simp)]
    have hu : ¬ (¬ zet (zi2 p.Links c) ∨ now + 40 < 0) := by rintro (k | k); exact k lk.line; omega
    cases hcl : p.Links.Closed.get c with
    | true =>
      have : zp2 p c now = (zi2 p.Links c, 11) := by unfold zp2 z9a; rw [if_neg hu, if_pos hcl]
      rw [this, if_pos (by simp)]; exact .inl ⟨rfl, .inr (.inl rfl)⟩
    | false =>
      by_cases h4 : 400 ≤ (p.Links.Said.get c).length
      · have : zp2 p c now = (zi2 p.Links c, 6) := by unfold zp2 z9a; rw [if_neg hu, if_neg (by simp [hcl]), if_pos h4]
        rw [this, if_pos (by simp)]; exact .inl ⟨rfl, .inr (.inr h4)⟩
      · have e : zp2 p c now = (⟨p.Links.Said.get c ++ [txt (zsk (pkOf p c))], p.Links.Due.get c ++ [now + 40], p.Links.Got.get c, p.Links.Closed.get c⟩, 0) := by
          unfold zp2 z9a; rw [if_neg hu, if_neg (by simp [hcl]), if_neg h4, zm7 hg]
        rw [if_neg (by rw [e]; simp)]
        refine .inr ⟨hq, rfl, by omega, ?_⟩
        unfold zanf
        rw [e]
        simp only [zpw _ hc]
theorem z5v {p : za} {c now : Int} (h : GoodX p) (hc : 0 ≤ c ∧ c < 2) (hn : 0 ≤ now) : GoodX (zd6 p c now) := by
  unfold zd6
  repeat' split
  · exact h
  · exact h
  · exact h
  · have hlk : ∀ j : Int, 0 ≤ j ∧ j < 2 → LkX (zanf p c now) j := by
      intro j hj
      obtain ⟨a1, a2, a3, a4, a5, a6⟩ := h.lk hj
      by_cases e : j = c
      · subst e
        refine ⟨a1, a2, a3, ?_, ?_, ?_⟩
        · show zy 1 (-1) ((p.Links.Told.set j p.Set).get j) = true
          rw [zar _ _ hj hj, if_pos rfl]; exact h.2.2.1
        · show zet ⟨(p.Links.Said.set j (zp2 p j now).1.Said).get j, (p.Links.Due.set j (zp2 p j now).1.Due).get j, (p.Links.Got.set j (zp2 p j now).1.Got).get j, (p.Links.Closed.set j (zp2 p j now).1.Closed).get j⟩
          simp only [zar _ _ hj hj, if_pos]
          refine zahc a5 ?_
          have : 0 ≤ now := hn
          omega
        · show zan (-1) ((p.Links.Done.set j []).get j) = true
          rw [zar _ _ hj hj, if_pos rfl]; rfl
      · refine ⟨a1, a2, a3, ?_, ?_, ?_⟩
        · show zy 1 (-1) ((p.Links.Told.set c p.Set).get j) = true
          rw [zar _ _ hc hj, if_neg e]; exact a4
        · show zet ⟨(p.Links.Said.set c (zp2 p c now).1.Said).get j, (p.Links.Due.set c (zp2 p c now).1.Due).get j, (p.Links.Got.set c (zp2 p c now).1.Got).get j, (p.Links.Closed.set c (zp2 p c now).1.Closed).get j⟩
          simp only [zar _ _ hc hj, if_neg e]
          exact a5
        · show zan (-1) ((p.Links.Done.set c []).get j) = true
          rw [zar _ _ hc hj, if_neg e]; exact a6
    exact ⟨h.1, h.2.1, h.2.2.1, okLk_iff.2 (hlk 0 (by omega)), okLk_iff.2 (hlk 1 (by omega)), h.2.2.2.2.2⟩
theorem zani {p : za} (hg : zal p = true) {now : Int} (hn : p.Time ≤ now ∧ now ≤ 1099511627776) : GoodX (zli p now).1 := by
  unfold zli
  rw [if_pos ⟨hg, hn⟩]
  have h0 := (goodPr_iff.1 hg).1.2.1
  exact z5v (z5v (zaby hg hn) (by omega) (by omega)) (by omega) (by omega)
theorem zabz {p : za} (hg : zal p = true) {c : Int} (hc : 0 ≤ c ∧ c < 2) : zal (ztw p c) = true := by
  obtain ⟨hx, hH⟩ := goodPr_iff.1 hg
  have hlk : ∀ j : Int, 0 ≤ j ∧ j < 2 → LkX (ztw p c) j := by
    intro j hj
    obtain ⟨a1, a2, a3, a4, a5, a6⟩ := hx.lk hj
    refine ⟨?_, a2, a3, a4, a5, ?_⟩
    · show ¬ ((p.Links.On.set c false).get j = true ∧ (p.Links.Gone.set c true).get j = true)
      rw [zar _ _ hc hj, zar _ _ hc hj]
      by_cases e : j = c
      · rw [if_pos e]; simp
      · rw [if_neg e, if_neg e]; exact a1
    · show zan (-1) ((p.Links.Done.set c []).get j) = true
      rw [zar _ _ hc hj]
      by_cases e : j = c
      · rw [if_pos e]; rfl
      · rw [if_neg e]; exact a6
  refine goodPr_iff.2 ⟨⟨z2u hx.1, hx.2.1, hx.2.2.1, okLk_iff.2 (hlk 0 (by omega)), okLk_iff.2 (hlk 1 (by omega)), List.all_eq_true.2 fun b hb => ask_iff.2 ?_⟩, hH⟩
  obtain ⟨h1, h2⟩ := List.mem_filter.1 hb
  obtain ⟨q1, q2, q3, q4⟩ := hx.ask h1
  refine ⟨q1, ?_, q3, q4⟩
  show (p.Links.On.set c false).get b.C = true
  rw [zar _ _ hc q1, if_neg (by simpa [z3m] using h2)]
  exact q2
end Go.Proofs.YtmakmlnfbdablaaGreat.Ab
namespace Go.Proofs.YtmakmlnfbdablaaGreat.Ab
open Go Go.RowKit
set_option linter.unusedVariables false
set_option linter.unusedSimpArgs false
theorem z9y {p : za} {now : Int} (h : zal p = true ∧ p.Time ≤ now ∧ now ≤ 1099511627776) : (zli p now).2.2 = 0 := by unfold zli; rw [if_pos h]
theorem zaft {p : za} {now : Int} (h : zal p = true ∧ p.Time ≤ now ∧ now ≤ 1099511627776) :
    (zli p now).1.Height = p.Height + 1 ∧ (zli p now).1.Time = now ∧ (zli p now).1.Stake = (z6r (zfr p now).1.Stake now).1 ∧ (zli p now).1.Set = setS (z6r (zfr p now).1.Stake now).1 ∧ (zli p now).1.Queue = (zfr p now).2.2 ∧
    (zli p now).1.Links.On = p.Links.On ∧ (zli p now).1.Links.Gone = p.Links.Gone ∧ (zli p now).1.Links.Base = p.Links.Base := by
  unfold zli
  rw [if_pos h]
  obtain ⟨S, D, M, e, -⟩ := z3n h.1 now
  obtain ⟨a1, a2, a3, a4, a5, a6, a7, a8, a9, -⟩ := zss (zd6 (znm p now) 0 now) 1 now
  obtain ⟨b1, b2, b3, b4, b5, b6, b7, b8, b9, -⟩ := zss (znm p now) 0 now
  simp only [a1, a2, a3, a4, a6, a7, a8, a9, b1, b2, b3, b4, b6, b7, b8, b9]
  refine ⟨?_, ?_, rfl, rfl, rfl, ?_, ?_, ?_⟩
  all_goals
    unfold znm
    rw [e]
    rfl
theorem zanj {s : Stake} (hg : GoodS s) (t : Int) : (z6r s t).1.Validators = s.Validators := by rw [zadq hg]
end Go.Proofs.YtmakmlnfbdablaaGreat.Ab
namespace Go.Proofs.YtmakmlnfbdablaaGreat.Ab
open Go Go.RowKit
set_option linter.unusedVariables false
set_option linter.unusedSimpArgs false
def zawn (on fresh : Bool) (told : List Power) (D : List Int) (l : ze0) (H now : Int) (set told' : List Power) (D' : List Int) (fresh' : Bool) (l' : ze0) : Prop :=
  (told' = told ∧ D' = D ∧ fresh' = fresh ∧ l' = l ∧ (on = false ∨ (zx7 (fP told) (fP set) = [] ∧ D = [] ∧ fresh = false) ∨ l.Closed = true ∨ 400 ≤ l.Said.length)) ∨
  (told' = set ∧ D' = [] ∧ fresh' = false ∧ on = true ∧ l.Closed = false ∧ l.Said.length < 400 ∧ ¬ (zx7 (fP told) (fP set) = [] ∧ D = [] ∧ fresh = false) ∧ zez ⟨1, H, 0, 0, zx7 (fP told) (fP set), D⟩ = 0 ∧
    l' = ⟨l.Said ++ [txt (zsk ⟨1, H, 0, 0, zx7 (fP told) (fP set), D⟩)], l.Due ++ [now + 40], l.Got, l.Closed⟩)
theorem zab0 {p : za} {c now : Int} (h : GoodX p) (hc : 0 ≤ c ∧ c < 2) (hH : 1 ≤ p.Height ∧ p.Height ≤ 1099511627776) (hn : 0 ≤ now) :
    zawn (p.Links.On.get c) (p.Links.Fresh.get c) (p.Links.Told.get c) (p.Links.Done.get c) (zi2 p.Links c) p.Height now p.Set ((zd6 p c now).Links.Told.get c) ((zd6 p c now).Links.Done.get c) ((zd6 p c now).Links.Fresh.get c) (zi2 (zd6 p c now).Links c) := by
  rcases zanh h hc hH hn with ⟨e, h1⟩ | ⟨h1, h2, h3, e⟩
  · rw [e]
    refine .inl ⟨rfl, rfl, rfl, rfl, ?_⟩
    rcases h1 with (h1 | h1) | h1 | h1
    · exact .inl h1
    · exact .inr (.inl h1)
    · exact .inr (.inr (.inl h1))
    · exact .inr (.inr (.inr h1))
  · rw [e]
    have on : p.Links.On.get c = true := by
      cases o : p.Links.On.get c with
      | true => rfl
      | false => exact absurd (.inl o) h1
    refine .inr ⟨?_, ?_, ?_, on, h2, h3, fun k => h1 (.inr k), zakm h.2.2.1 (h.lk hc).done hH, ?_⟩
    · simp only [zar _ _ hc hc, if_pos]
    · simp only [zar _ _ hc hc, if_pos]
    · simp only [zar _ _ hc hc, if_pos]
    · unfold zi2
      simp only [zar _ _ hc hc, if_pos]
      rfl
theorem zakn {p : za} (hg : zal p = true) (now : Int) : (znm p now).Height = p.Height + 1 ∧ (znm p now).Links.On = p.Links.On ∧ (znm p now).Links.Fresh = p.Links.Fresh ∧ (znm p now).Links.Told = p.Links.Told ∧ (∀ c, zi2 (znm p now).Links c = zi2 p.Links c) := by
  obtain ⟨S, D, M, e, -⟩ := z3n hg now
  unfold znm
  rw [e]
  exact ⟨rfl, rfl, rfl, rfl, fun _ => rfl⟩
theorem zank {p : za} {now : Int} (h : zal p = true ∧ p.Time ≤ now ∧ now ≤ 1099511627776) {c : Int} (hc : 0 ≤ c ∧ c < 2) :
    ∃ D, D = (znm p now).Links.Done.get c ∧ zawn (p.Links.On.get c) (p.Links.Fresh.get c) (p.Links.Told.get c) D (zi2 p.Links c) (zli p now).1.Height now (zli p now).1.Set ((zli p now).1.Links.Told.get c) ((zli p now).1.Links.Done.get c) ((zli p now).1.Links.Fresh.get c) (zi2 (zli p now).1.Links c) := by
  obtain ⟨hx, hH⟩ := goodPr_iff.1 h.1
  have hn : 0 ≤ now := by have := hx.2.1.2.1; omega
  have h0 := hx.2.1.1
  have g0 := zaby h.1 h.2
  have g1 := z5v (c := 0) g0 (by omega) hn
  obtain ⟨p1, p2, p3, p4, p5⟩ := zakn h.1 now
  obtain ⟨a1, a2, a3, a4, a5, a6, a7, a8, a9, -⟩ := zss (zd6 (znm p now) 0 now) 1 now
  obtain ⟨b1, b2, b3, b4, b5, b6, b7, b8, b9, -⟩ := zss (znm p now) 0 now
  refine ⟨_, rfl, ?_⟩
  unfold zli
  rw [if_pos h]
  simp only []
  rw [a1, a4, b1, b4, ← p2, ← p3, ← p4, ← p5 c]
  rcases (show c = 0 ∨ c = 1 by omega) with rfl | rfl
  · obtain ⟨t1, t2, t3, t4⟩ := z7s (p := zd6 (znm p now) 0 now) (c := 1) (j := 0) (now := now) (by omega) (by omega) (by omega)
    rw [t1, t2, t3, t4]
    exact zab0 g0 hc (by omega) hn
  · obtain ⟨t1, t2, t3, t4⟩ := z7s (p := znm p now) (c := 0) (j := 1) (now := now) (by omega) (by omega) (by omega)
    have := zab0 (c := 1) (now := now) g1 hc (by rw [b1]; omega) hn
    rw [b7, t1, t2, t3, t4, b1, b4] at this
    exact this
end Go.Proofs.YtmakmlnfbdablaaGreat.Ab
namespace Go.Proofs.YtmakmlnfbdablaaGreat.Ab
open Go Go.RowKit
set_option linter.unusedVariables false
set_option linter.unusedSimpArgs false
theorem zw1 {C : zcs} {i j : Int} (hi : 0 ≤ i ∧ i < 2) (hj : 0 ≤ j ∧ j < 2) (c : zb) : zc (zpy C i c) j = if j = i then c else zc C j := by
  unfold zc zpy
  simp only [zar _ _ hi hj]
  by_cases e : j = i
  · simp only [if_pos e]
  · simp only [if_neg e]
theorem zpx {C : zcs} {i : Int} (hi : 0 ≤ i ∧ i < 2) (c : zb) : zc (zpy C i c) i = c := by rw [zw1 hi hi, if_pos rfl]
theorem znc {C : zcs} {i j : Int} (hi : 0 ≤ i ∧ i < 2) (hj : 0 ≤ j ∧ j < 2) (h : j ≠ i) (c : zb) : zc (zpy C i c) j = zc C j := by rw [zw1 hi hj, if_neg h]
theorem zab1 {C : zcs} {i : Int} (hi : 0 ≤ i ∧ i < 2) : zpy C i (zc C i) = C := by
  unfold zc zpy
  simp only [zpw _ hi]
def z2x (L : Links) (i : Int) (l : ze0) : Links := { L with Said := L.Said.set i l.Said, Due := L.Due.set i l.Due, Got := L.Got.set i l.Got, Closed := L.Closed.set i l.Closed }
def z9z (L : Links) (i : Int) (h : z75) : Links := { L with SHeight := L.SHeight.set i h.Height, STime := L.STime.set i h.Time, SSaid := L.SSaid.set i h.Said, SGot := L.SGot.set i h.Got }
theorem z1x {L : Links} {i j : Int} (hi : 0 ≤ i ∧ i < 2) (hj : 0 ≤ j ∧ j < 2) (l : ze0) : zm (z2x L i l) j = if j = i then { zm L j with Out := l } else zm L j := by
  unfold zm z2x
  simp only [zar _ _ hi hj]
  by_cases e : j = i
  · simp only [if_pos e]
  · simp only [if_neg e]
theorem zzg (L : Links) (i : Int) : zi2 L i = (zm L i).Out := rfl
def noW (w : Wld) (e : Int) : Wld × Reply := (w, ⟨e, 0⟩)
def zako (h : zw5) (p : za) (C : zcs) : zw5 :=
  { h with PHeight := ⟨p.Height, p.Height⟩, PTime := ⟨p.Time, p.Time⟩, PSaid := ⟨((p.Links.Said.x0.length : Nat) : Int), ((p.Links.Said.x1.length : Nat) : Int)⟩, PGot := C.Got }
def zawo (h : zw5) (i : Int) (c : zb) (got : Int) : zw5 :=
  { h with CHeight := h.CHeight.set i c.Height, CTime := h.CTime.set i c.Time, CSaid := h.CSaid.set i ((c.Out.Said.length : Nat) : Int), CGot := h.CGot.set i got }
def zaos (h : zw5) (i : Int) : zw5 :=
  ⟨h.PHeight.set i 0, h.PTime.set i 0, h.PSaid.set i 0, h.PGot.set i 0, h.CHeight.set i 0, h.CTime.set i 0, h.CSaid.set i 0, h.CGot.set i 0⟩
def zawp (h : zw5) (i : Int) : z75 := ⟨h.PHeight.get i, h.PTime.get i, h.PSaid.get i, h.PGot.get i⟩
def zawq (h : zw5) (i : Int) : z75 := ⟨h.CHeight.get i, h.CTime.get i, h.CSaid.get i, h.CGot.get i⟩
def zjd (w : Wld) : Wld × Reply :=
  if (zli w.p w.clock).2.2 ≠ 0 then noW w (zli w.p w.clock).2.2
  else ({ w with p := (zli w.p w.clock).1, heads := zako w.heads (zli w.p w.clock).1 w.consumers }, ⟨0, (((zli w.p w.clock).2.1.length : Nat) : Int)⟩)
def z2y (w : Wld) (i : Int) : Wld × Reply :=
  if (zef w.p i).2 ≠ 0 then noW w (zef w.p i).2
  else ({ w with p := (zef w.p i).1, consumers := zpy w.consumers i (zsq (zef w.p i).1.Set (zef w.p i).1.Height w.clock), heads := zaos w.heads i }, ⟨0, (zef w.p i).1.Height⟩)
def zw2 (w : Wld) (i : Int) : Wld × Reply :=
  if (z9s w.clock (zc w.consumers i)).2 ≠ 0 then noW w (z9s w.clock (zc w.consumers i)).2
  else ({ w with consumers := zpy w.consumers i (z9s w.clock (zc w.consumers i)).1, heads := zawo w.heads i (z9s w.clock (zc w.consumers i)).1 (w.p.Links.Got.get i) }, ⟨0, 0⟩)
def z7t (w : Wld) (i : Int) (back : Bool) : Wld × Reply :=
  if back = true then ({ w with p := { w.p with Links := z9z w.p.Links i (zawq w.heads i) } }, ⟨0, 0⟩)
  else ({ w with consumers := zpy w.consumers i { zc w.consumers i with Seen := zawp w.heads i } }, ⟨0, 0⟩)
def zakp (n : Nat) : Packet := ⟨3, 1, 0, IntKind.i64.wrap (1 + (n : Int)), [], []⟩
def zakq (l : ze0) : ByteArray := if l.Got < ((l.Said.length : Nat) : Int) then l.Said.getD l.Got.toNat .empty else (⟨#[]⟩ : ByteArray)
def zk6 (l : ze0) (forged : Bool) : ByteArray := if forged = true then (zhc (zakp (zakq l).size)).1 else zakq l
def zd8 (w : Wld) (i : Int) (back : Bool) : ze0 := if back = true then (zc w.consumers i).Out else (zm w.p.Links i).Out
def z90 (w : Wld) (i : Int) (back : Bool) : Int := if back = true then w.p.Links.SSaid.get i else w.consumers.SSaid.get i
def znn (w : Wld) (d : Deed) : ze0 × Int := zot (zd8 w d.C d.Back) (IntKind.i64.wrap ((zd8 w d.C d.Back).Got + 1)) (zk6 (zd8 w d.C d.Back) d.Forged) (z90 w d.C d.Back) w.clock
def zq7 (w : Wld) (d : Deed) : Wld × Reply :=
  if (znn w d).2 ≠ 0 then noW w (znn w d).2
  else if d.Back = true then
    (if (znz w.p d.C (zk6 (zd8 w d.C d.Back) d.Forged).data.toList).2 ≠ 0 then noW w (znz w.p d.C (zk6 (zd8 w d.C d.Back) d.Forged).data.toList).2
     else ({ w with p := (znz w.p d.C (zk6 (zd8 w d.C d.Back) d.Forged).data.toList).1, consumers := zpy w.consumers d.C { zc w.consumers d.C with Out := (znn w d).1 } }, ⟨0, (znn w d).1.Got⟩))
  else (if (zwd (zc w.consumers d.C) (zk6 (zd8 w d.C d.Back) d.Forged).data.toList).2 ≠ 0 then noW w (zwd (zc w.consumers d.C) (zk6 (zd8 w d.C d.Back) d.Forged).data.toList).2
     else ({ w with p := { w.p with Links := z2x w.p.Links d.C (znn w d).1 }, consumers := zpy w.consumers d.C (zwd (zc w.consumers d.C) (zk6 (zd8 w d.C d.Back) d.Forged).data.toList).1 }, ⟨0, (znn w d).1.Got⟩))
def z91 (w : Wld) (d : Deed) : ze0 × Int := if d.Back = true then z1p (zc w.consumers d.C).Out d.N (w.consumers.STime.get d.C) (w.consumers.SGot.get d.C) else z1p (zm w.p.Links d.C).Out d.N (w.p.Links.STime.get d.C) (w.p.Links.SGot.get d.C)
def zwg (w : Wld) (d : Deed) : Wld × Reply :=
  if (z91 w d).2 ≠ 0 then noW w (z91 w d).2 else ({ w with p := ztx w.p d.C, consumers := zpy w.consumers d.C (zzd (zc w.consumers d.C)) }, ⟨0, 0⟩)
def putW (w : Wld) (i : Int) (r : zb × Int) : Wld × Reply := if r.2 ≠ 0 then noW w r.2 else ({ w with consumers := zpy w.consumers i r.1 }, ⟨0, 0⟩)
def zq8 (w : Wld) (d : Deed) : Wld × Reply :=
  if d.Kind < 4 ∨ 12 < d.Kind then noW w 3 else if d.C < 0 ∨ 2 ≤ d.C then noW w 4 else if d.Kind ≠ 4 ∧ w.consumers.On.get d.C = false then noW w 4
  else if d.Kind = 4 then z2y w d.C else if d.Kind = 7 then zw2 w d.C else if d.Kind = 8 then z7t w d.C d.Back else if d.Kind = 9 then zq7 w d else if d.Kind = 10 then zwg w d
  else if d.Kind = 11 then putW w d.C (z5n (zc w.consumers d.C) d.V w.clock) else if d.Kind = 12 then putW w d.C (zrl (zc w.consumers d.C) d.V d.N w.clock) else (w, ⟨0, 0⟩)
def zrm (w : Wld) (r : za × Int) : Wld × Reply := if r.2 ≠ 0 then noW w r.2 else ({ w with p := r.1 }, ⟨0, 0⟩)
def zafu (p : za) (v : Int) : za × Int := ({ p with Stake := (zaw p.Stake v 1).1 }, (zaw p.Stake v 1).2)
def zahd (w : Wld) (n : Int) : Wld × Reply := if n < 1 ∨ 1099511627736 - w.clock < n then noW w 2 else ({ w with clock := w.clock + n }, ⟨0, w.clock + n⟩)
def actW (w : Wld) (d : Deed) : Wld × Reply :=
  if d.Kind = 1 then zrm w (zdj w.p d.D d.V d.N) else if d.Kind = 2 then zrm w (zda w.p d.D d.V d.N w.clock) else if d.Kind = 3 then zrm w (zafu w.p d.V) else if d.Kind = 13 then zrm w (zwf w.p d.V d.N)
  else if d.Kind = 5 then zahd w d.N else if d.Kind = 6 then zjd w else zq8 w d
def zay (w : Wld) : Wld := { w with deeds := w.deeds + 1 }
def doW (w : Wld) (d : Deed) : Wld × Reply := if 600 ≤ w.deeds then noW w 6 else actW (zay w) d
def newW : Wld := ⟨0, zabr, default, default, 0⟩
def Pk1 (s : ByteArray) : Prop := ∃ q, zez q = 0 ∧ q.Kind = 1 ∧ s = txt (zsk q)
def PkB (s : ByteArray) : Prop := ∃ q, zez q = 0 ∧ q.Kind ≠ 1 ∧ s = txt (zsk q)
structure ConsW (w : Wld) (i : Int) : Prop where
  good : zj1 (zc w.consumers i) = true
  height : (zc w.consumers i).Height ≤ w.deeds
  time : (zc w.consumers i).Time ≤ w.clock
  size : (((zc w.consumers i).Pending.length + (zc w.consumers i).Ripes.length : Nat) : Int) ≤ w.deeds
  on : (zc w.consumers i).On = w.p.Links.On.get i
  gone : (zc w.consumers i).Gone = w.p.Links.Gone.get i
  told : ∀ s, s ∈ (zm w.p.Links i).Out.Said → Pk1 s
  said : ∀ s, s ∈ (zc w.consumers i).Out.Said → PkB s
  fresh : w.p.Links.On.get i = false → w.p.Links.Gone.get i = false → zc w.consumers i = default ∧ (zm w.p.Links i).Out.Said = []
structure OkW (w : Wld) : Prop where
  d0 : 0 ≤ w.deeds
  d1 : w.deeds ≤ 600
  t0 : 0 ≤ w.clock
  t1 : w.clock ≤ 1099511627736
  p : GoodX w.p
  ph : w.p.Height ≤ w.deeds
  pt : w.p.Time ≤ w.clock
  pq : ((w.p.Queue.length : Nat) : Int) ≤ w.deeds
  c : ∀ i : Int, 0 ≤ i ∧ i < 2 → ConsW w i
theorem OkW.pr {w : Wld} (h : OkW w) : zal w.p = true := goodPr_iff.2 ⟨h.p, by have := h.ph; have := h.d1; omega⟩
theorem OkW.fit {w : Wld} (h : OkW w) : FitPr 140737488351232 w.p := fitX h.p (by omega) (by have := h.pq; have := h.d1; omega)
theorem zar0 {c : zb} (h : zj1 c = true) {n : Nat} (hn : n ≤ 1000000) (hs : c.Pending.length + c.Ripes.length ≤ n) : FitC 140737488351232 c := by
  obtain ⟨g1, g2, g3, g4, g5⟩ := zdm h
  have e1 := zjy g3 (by omega)
  have e2 : c.Out.Said.length = c.Out.Due.length := g2.1
  have e3 : c.Out.Said.length ≤ 400 := g2.2.1
  exact ⟨by omega, by omega, by omega, by omega, by omega, fun p hp => by have := z5t (z5m g5 p hp).1; omega⟩
theorem ConsW.fit {w : Wld} {i : Int} (h : ConsW w i) (hd : w.deeds ≤ 600) : FitC 140737488351232 (zc w.consumers i) :=
  zar0 h.good (n := 600) (by omega) (by have := h.size; omega)
structure SameL (p q : za) (i : Int) : Prop where
  on : p.Links.On.get i = q.Links.On.get i
  gone : p.Links.Gone.get i = q.Links.Gone.get i
  said : (zm p.Links i).Out.Said = (zm q.Links i).Out.Said
theorem SameL.refl (p : za) (i : Int) : SameL p p i := ⟨rfl, rfl, rfl⟩
theorem SameL.of {p q : za} {i : Int} (h : zm p.Links i = zm q.Links i) : SameL p q i := ⟨congrArg Link.On h, congrArg Link.Gone h, by rw [h]⟩
theorem ConsW.more {w w' : Wld} {i : Int} (h : ConsW w i) (hc : zc w'.consumers i = zc w.consumers i) (hl : SameL w'.p w.p i) (hd : w.deeds ≤ w'.deeds) (ht : w.clock ≤ w'.clock) : ConsW w' i := by
  obtain ⟨e1, e2, e3⟩ := hl
  obtain ⟨a1, a2, a3, a4, a5, a6, a7, a8, a9⟩ := h
  refine ⟨by rw [hc]; exact a1, by rw [hc]; omega, by rw [hc]; omega, by rw [hc]; omega, by rw [hc, e1]; exact a5, by rw [hc, e2]; exact a6, by rw [e3]; exact a7, by rw [hc]; exact a8, ?_⟩
  rw [e1, e2, hc, e3]; exact a9
theorem zk7 {w : Wld} (h : OkW w) (hd : w.deeds < 600) : OkW (zay w) :=
  ⟨by have := h.d0; show 0 ≤ w.deeds + 1; omega, by show w.deeds + 1 ≤ 600; omega, h.t0, h.t1, h.p, by have := h.ph; show w.p.Height ≤ w.deeds + 1; omega, h.pt, by have := h.pq; show ((w.p.Queue.length : Nat) : Int) ≤ w.deeds + 1; omega,
    fun i hi => (h.c i hi).more rfl (.refl _ _) (by show w.deeds ≤ w.deeds + 1; omega) (by exact Int.le_refl _)⟩
theorem zad0 : OkW newW := by
  have g : GoodX zabr := (goodPr_iff.1 z7q).1
  refine ⟨by decide, by decide, by decide, by decide, g, by decide, by decide, by decide, fun i hi => ?_⟩
  have hc : zc newW.consumers i = default := by rcases (show i = 0 ∨ i = 1 by omega) with rfl | rfl <;> rfl
  have hl : zm newW.p.Links i = default := by rcases (show i = 0 ∨ i = 1 by omega) with rfl | rfl <;> rfl
  have e1 : newW.p.Links.On.get i = false := congrArg Link.On hl
  have e2 : newW.p.Links.Gone.get i = false := congrArg Link.Gone hl
  refine ⟨by rw [hc]; decide, by rw [hc]; decide, by rw [hc]; decide, by rw [hc]; decide, by rw [hc, e1]; rfl, by rw [hc, e2]; rfl, (by rw [hl]; intro s hs; cases hs), (by rw [hc]; intro s hs; cases hs), fun _ _ => ⟨hc, by rw [hl]; rfl⟩⟩
theorem z92 {w : Wld} (h : OkW w) {p : za} (hp : GoodX p) (hH : p.Height = w.p.Height) (hT : p.Time = w.p.Time) (hQ : p.Queue.length = w.p.Queue.length) (hl : ∀ i : Int, 0 ≤ i ∧ i < 2 → SameL p w.p i) : OkW { w with p := p } :=
  ⟨h.d0, h.d1, h.t0, h.t1, hp, by rw [hH]; exact h.ph, by rw [hT]; exact h.pt, by rw [hQ]; exact h.pq, fun i hi => (h.c i hi).more rfl (hl i hi) (Int.le_refl _) (Int.le_refl _)⟩
theorem z5w {p : za} (h : GoodX p) {s : Stake} (hs : GoodS s) : GoodX { p with Stake := s } := ⟨hs, h.2.1, h.2.2.1, h.2.2.2.1, h.2.2.2.2.1, h.2.2.2.2.2⟩
theorem z5x {w : Wld} (h : OkW w) {s : Stake} (hs : GoodS s) : OkW { w with p := { w.p with Stake := s } } := z92 h (z5w h.p hs) rfl rfl rfl fun _ _ => ⟨rfl, rfl, rfl⟩
theorem z1a {w : Wld} (h : OkW w) {r : za × Int} (hr : r.2 = 0 → OkW { w with p := r.1 }) : OkW (zrm w r).1 := by
  unfold zrm
  by_cases e : r.2 = 0
  · rw [if_neg (by simpa using e)]; exact hr e
  · rw [if_pos e]; exact h
theorem zab2 {w : Wld} (h : OkW w) (d v n : Int) : OkW (zrm w (zdj w.p d v n)).1 := by
  refine z1a h fun h0 => ?_
  unfold zdj at h0 ⊢
  rw [if_pos h.pr] at h0 ⊢
  by_cases e : (zb8 w.p.Stake d v n).2 = 0
  · rw [if_neg (by simpa using e)]; exact z5x h (z9p e)
  · rw [if_pos e] at h0; exact absurd h0 e
theorem zad1 {p : za} (h : GoodX p) : GoodX { p with Links := zabs p.Links } := by
  have hlk : ∀ j : Int, 0 ≤ j ∧ j < 2 → LkX { p with Links := zabs p.Links } j := by
    intro j hj
    obtain ⟨a1, a2, a3, a4, a5, a6⟩ := h.lk hj
    exact ⟨a1, a2, a3, a4, a5, a6⟩
  exact ⟨h.1, h.2.1, h.2.2.1, okLk_iff.2 (hlk 0 (by omega)), okLk_iff.2 (hlk 1 (by omega)), h.2.2.2.2.2⟩
theorem z6s {w : Wld} (h : OkW w) (d v k : Int) : OkW (zrm w (zda w.p d v k w.clock)).1 := by
  refine z1a h fun h0 => ?_
  unfold zda at h0 ⊢
  have ht : zal w.p = true ∧ 0 ≤ w.clock ∧ w.clock ≤ 1099511627776 := ⟨h.pr, h.t0, by have := h.t1; omega⟩
  rw [if_pos ht] at h0 ⊢
  by_cases e : (zbh w.p.Stake d v k (z5q w.p w.clock)).2 = 0
  · rw [if_neg (by simpa using e)]
    have g := z5j e
    exact z92 h (z5w (zad1 h.p) g) rfl rfl rfl fun _ _ => ⟨rfl, rfl, rfl⟩
  · rw [if_pos e] at h0; exact absurd h0 e
theorem zahe {w : Wld} (h : OkW w) (v : Int) : OkW (zrm w (zafu w.p v)).1 :=
  z1a h fun _ => z5x h (ztv h.p.1 v (.inr (.inl rfl)))
theorem zanl {w : Wld} (h : OkW w) (v n : Int) : OkW (zrm w (zwf w.p v n)).1 := by
  refine z1a h fun h0 => ?_
  unfold zwf at h0 ⊢
  rw [if_neg (by rw [h.pr]; simp)] at h0 ⊢
  by_cases h1 : 0 ≤ v ∧ v < 6
  · rw [if_pos h1] at h0 ⊢
    by_cases h2 : 1 ≤ n ∧ n ≤ w.p.Height
    · rw [if_pos h2] at h0 ⊢
      by_cases h3 : w.p.Stake.Validators.Dead.get v = true
      · rw [if_pos h3] at h0; cases h0
      · rw [if_neg h3]; exact z5x h (ztv (zq6 h.p.1 v n 50) v (.inr (.inr rfl)))
    · rw [if_neg h2] at h0; cases h0
  · rw [if_neg h1] at h0; cases h0
theorem zanm {w : Wld} (h : OkW w) (n : Int) : OkW (zahd w n).1 := by
  unfold zahd
  split
  · exact h
  · rename_i hn
    have := h.t0; have := h.t1; have := h.pt
    exact ⟨h.d0, h.d1, by show 0 ≤ w.clock + n; omega, by show w.clock + n ≤ _; omega, h.p, h.ph, by show w.p.Time ≤ w.clock + n; omega, h.pq, fun i hi => (h.c i hi).more rfl (.refl _ _) (Int.le_refl _) (by show w.clock ≤ w.clock + n; omega)⟩
end Go.Proofs.YtmakmlnfbdablaaGreat.Ab
namespace Go.Proofs.YtmakmlnfbdablaaGreat.Ab
open Go Go.RowKit
set_option linter.unusedVariables false
set_option linter.unusedSimpArgs false
theorem zafv {M : Int} (hM : 0 ≤ M) : ∀ {l : List Power}, (∀ q, q ∈ l → q.N ≤ M) → ∀ v, zee l v ≤ M
  | [], _, v => by simpa [zee] using hM
  | q :: l, h, v => by
    simp only [zee]
    split
    · exact h q (List.mem_cons_self ..)
    · exact zafv hM (fun q hq => h q (List.mem_cons_of_mem _ hq)) v
theorem zafw {M : Int} : ∀ {d : List Power} {v n : Int}, n ≤ M → (∀ q, q ∈ d → q.N ≤ M) → zaa3 d v n ≤ M
  | [], v, n, hn, _ => hn
  | q :: d, v, n, hn, h => by
    show zaa3 d v (if q.V = v then q.N else n) ≤ M
    refine zafw ?_ (fun q hq => h q (List.mem_cons_of_mem _ hq))
    split
    · exact h q (List.mem_cons_self ..)
    · exact hn
theorem zann {a d : List Power} (ha : zy 1 (-1) a = true) (hd : zy 0 (-1) d = true) : zy 1 (-1) (z2s a d) = true :=
  zana fun v => zafw (zafv (by omega) (fun q hq => (zoy (by omega) ha (by omega) q hq).2.2.2) _) (fun q hq => (zoy (by omega) hd (by omega) q hq).2.2.2)
structure zahf (c : zb) : Prop where
  set : zy 1 (-1) c.Set = true
  ripes : c.Ripes.all zna = true
  id0 : 0 ≤ c.Id
  id1 : c.Id ≤ 1099511627776
theorem zakr {now : Int} (hn : 0 ≤ now ∧ now ≤ 1099511627776) {c : zb} (h : zahf c) {p : Packet} (hp : zny p = true) : zahf (zsr now c p) := by
  rw [z3k]
  obtain ⟨g1, g2, _⟩ := z5m (l := [p]) (by simp [hp]) p (by simp)
  have f := zlt g1
  refine ⟨zann h.set f.2.2.2.2.2.2.2.2.1, ?_, by show 0 ≤ p.Id; omega, f.2.2.2.1⟩
  show (c.Ripes ++ [(⟨p.Id, IntKind.i64.wrap (now + 15)⟩ : Ripe)]).all zna = true
  rw [List.all_append, h.ripes]
  have : zna (⟨p.Id, IntKind.i64.wrap (now + 15)⟩ : Ripe) = true := by
    unfold zna
    simp only [Bool.and_eq_true, decide_eq_true_eq]
    rw [zj (by omega) (by omega)]
    exact ⟨⟨f.2.2.1, f.2.2.2.1⟩, by omega⟩
  simp [this]
theorem z7u {now : Int} (hn : 0 ≤ now ∧ now ≤ 1099511627776) : ∀ {l : List Packet} {c : zb}, zahf c → l.all zny = true → zahf (l.foldl (zsr now) c)
  | [], _, h, _ => h
  | p :: l, c, h, hl => by
    rw [List.all_cons, Bool.and_eq_true] at hl
    exact z7u (c := zsr now c p) hn (zakr hn h hl.1) hl.2
def matP (r : Ripe) : Packet := ⟨2, r.Id, 0, 0, [], []⟩
def matT (r : Ripe) : ByteArray := txt (zsk (matP r))
theorem zab3 {r : Ripe} (h : zna r = true) : zez (matP r) = 0 := by
  unfold zna at h
  simp only [Bool.and_eq_true, decide_eq_true_eq] at h
  exact zaj8 h.1.1 h.1.2
theorem z5y {now : Int} (hn : 0 ≤ now ∧ now ≤ 1099511627776) : ∀ (rs : List Ripe) (c : zb), c.Ripes = rs → zet c.Out → rs.all zna = true →
    ∃ k, k ≤ rs.length ∧ zq4 now rs c = { c with Ripes := rs.drop k, Out := { c.Out with Said := c.Out.Said ++ (rs.take k).map matT, Due := c.Out.Due ++ List.replicate k (now + 40) } } ∧
      (∀ r, r ∈ rs.take k → r.Due ≤ now) ∧ (k = rs.length ∨ (∃ r, rs[k]? = some r ∧ now < r.Due) ∨ c.Out.Closed = true ∨ 400 ≤ c.Out.Said.length + k) ∧ c.Out.Said.length + k ≤ 400
  | [], c, hr, hg, _ => ⟨0, Nat.le_refl _, by
      show c = { c with Ripes := [], Out := { c.Out with Said := c.Out.Said ++ [], Due := c.Out.Due ++ [] } }
      rw [List.append_nil, List.append_nil, ← hr], by simp, .inl rfl, by have : c.Out.Said.length ≤ 400 := hg.2.1; omega⟩
  | r :: rs, c, hr, hg, ha => by
    have h400 : c.Out.Said.length ≤ 400 := hg.2.1
    rw [List.all_cons, Bool.and_eq_true] at ha
    have hstop : (r.Due ≤ now → c.Out.Closed = true ∨ 400 ≤ c.Out.Said.length) → zq4 now (r :: rs) c = c → ∃ k, k ≤ (r :: rs).length ∧ zq4 now (r :: rs) c = { c with Ripes := (r :: rs).drop k, Out := { c.Out with Said := c.Out.Said ++ ((r :: rs).take k).map matT, Due := c.Out.Due ++ List.replicate k (now + 40) } } ∧
        (∀ q, q ∈ (r :: rs).take k → q.Due ≤ now) ∧ (k = (r :: rs).length ∨ (∃ q, (r :: rs)[k]? = some q ∧ now < q.Due) ∨ c.Out.Closed = true ∨ 400 ≤ c.Out.Said.length + k) ∧ c.Out.Said.length + k ≤ 400 := by
      intro h1 h2
      refine ⟨0, Nat.zero_le _, by rw [h2]; simp [← hr], by simp, ?_, by omega⟩
      by_cases hd : r.Due ≤ now
      · rcases h1 hd with k | k
        · exact .inr (.inr (.inl k))
        · exact .inr (.inr (.inr (by omega)))
      · exact .inr (.inl ⟨r, rfl, by omega⟩)
    by_cases hd : r.Due ≤ now
    · by_cases hc : c.Out.Closed = true ∨ 400 ≤ c.Out.Said.length
      · refine hstop (fun _ => hc) ?_
        have e0 : (zun ⟨2, r.Id, 0, 0, [], []⟩ now c).1 ≠ 0 := by
          intro e
          obtain ⟨_, k, _⟩ := zaj7 e
          obtain ⟨_, _, k1, k2, _⟩ := zads k
          rcases hc with hc | hc
          · rw [hc] at k1; cases k1
          · omega
        unfold zq4
        rw [if_pos hd, if_pos e0]
      · have hc1 : c.Out.Closed = false := Bool.eq_false_iff.2 (fun h => hc (.inl h))
        have hc2 : c.Out.Said.length < 400 := by have : ¬ 400 ≤ c.Out.Said.length := fun h => hc (.inr h); omega
        have hw : IntKind.i64.wrap (now + 40) = now + 40 := zj (by omega) (by omega)
        have hs := zam8 (p := matP r) (now := now) (c := c) (zab3 ha.1) hg (by rw [hw]; omega) hc1 hc2
        rw [hw] at hs
        obtain ⟨c', hc'⟩ : ∃ c' : zb, c' = { c with Ripes := rs, Out := { c.Out with Said := c.Out.Said ++ [matT r], Due := c.Out.Due ++ [now + 40] } } := ⟨_, rfl⟩
        have hstep : zq4 now (r :: rs) c = zq4 now rs c' := by
          have hs' : zun ⟨2, r.Id, 0, 0, [], []⟩ now c = _ := hs
          rw [zq4, if_pos hd, hs', if_neg (by simp), hc']
          rfl
        have hg' : zet c'.Out := by rw [hc']; exact z7n hg (by omega) hc2
        obtain ⟨k, k1, k2, k3, k4, k5⟩ := z5y hn rs c' (by rw [hc']) hg' ha.2
        have l1 : c'.Out.Said.length = c.Out.Said.length + 1 := by rw [hc']; simp
        refine ⟨k + 1, by simp only [List.length_cons]; omega, ?_, ?_, ?_, by omega⟩
        · rw [hstep, k2, hc']
          simp only [List.drop_succ_cons, List.take_succ_cons, List.map_cons, List.append_assoc, List.singleton_append, List.replicate_succ]
        · intro q hq
          rw [List.take_succ_cons] at hq
          rcases List.mem_cons.1 hq with rfl | hq
          · exact hd
          · exact k3 q hq
        · rcases k4 with k4 | k4 | k4 | k4
          · exact .inl (by simp only [List.length_cons]; omega)
          · exact .inr (.inl (by simpa using k4))
          · exact .inr (.inr (.inl (by rw [hc'] at k4; exact k4)))
          · exact .inr (.inr (.inr (by omega)))
    · exact hstop (fun h => absurd h hd) (by unfold zq4; rw [if_neg hd])
theorem zahg {l : ze0} (h : zet l) {t : List ByteArray} {n u : Int} (hu : 0 ≤ u) (hl : l.Said.length + t.length ≤ 400) : zet { l with Said := l.Said ++ t, Due := l.Due ++ List.replicate t.length u } := by
  obtain ⟨g1, g2, g3, g4, g5⟩ := h
  refine ⟨by simp [g1], by simp only [List.length_append]; omega, g3, by simp only [List.length_append]; omega, ?_⟩
  simp only [List.any_append, g5, Bool.false_or]
  rw [List.any_eq_false]
  intro x hx
  rw [List.eq_of_mem_replicate hx]
  simp only [decide_eq_true_eq]; omega
theorem z7v {now : Int} {c : zb} (hg : zj1 c = true) (ho : c.On = true) (ht : c.Time ≤ now ∧ now ≤ 1099511627776) (hh : c.Height + 1 < 1099511627776) :
    (z9s now c).2 = 0 ∧ ∃ m k, m = c.Pending.foldl (zsr now) { c with Height := c.Height + 1, Time := now } ∧ zahf m ∧ m.Ripes.length = c.Ripes.length + c.Pending.length ∧ k ≤ m.Ripes.length ∧
      (z9s now c).1 = { m with Pending := [], Ripes := m.Ripes.drop k, Out := { c.Out with Said := c.Out.Said ++ (m.Ripes.take k).map matT, Due := c.Out.Due ++ List.replicate k (now + 40) } } ∧
      m.On = c.On ∧ m.Gone = c.Gone ∧ m.Height = c.Height + 1 ∧ m.Time = now ∧ m.Out = c.Out ∧ (∀ r, r ∈ m.Ripes.take k → r.Due ≤ now) ∧
      (k = m.Ripes.length ∨ (∃ r, m.Ripes[k]? = some r ∧ now < r.Due) ∨ c.Out.Closed = true ∨ 400 ≤ c.Out.Said.length + k) ∧ c.Out.Said.length + k ≤ 400 ∧ zj1 (z9s now c).1 = true := by
  obtain ⟨g1, g2, g3, g4, g5⟩ := zdm hg
  have hw : IntKind.i64.wrap (c.Height + 1) = c.Height + 1 := zj (by have := g1.2; omega) (by have := g1.2; omega)
  have hn0 : 0 ≤ now := by have := g1.2.2.2.1; omega
  have he := zam9 (now := now) hg ho ht.1 ht.2
  rw [hw] at he
  obtain ⟨m, hm⟩ : ∃ m, m = c.Pending.foldl (zsr now) { c with Height := c.Height + 1, Time := now } := ⟨_, rfl⟩
  rw [← hm] at he
  have hpm : zahf m := by rw [hm]; exact z7u ⟨hn0, ht.2⟩ ⟨g3, g4, g1.2.2.2.2.2.1, g1.2.2.2.2.2.2⟩ g5
  obtain ⟨f1, f2, f3, f4, f5, f6⟩ := zx8 (now := now) c.Pending { c with Height := c.Height + 1, Time := now }
  rw [← hm] at f1 f2 f3 f4 f5 f6
  obtain ⟨k, k1, k2, k3, k4, k5⟩ := z5y (now := now) ⟨hn0, ht.2⟩ m.Ripes { m with Pending := [] } rfl (by show zet m.Out; rw [f2]; exact g2) hpm.ripes
  replace f2 : m.Out = c.Out := f2
  simp only [f2] at k4 k5
  have hfin : (z9s now c).1 = { m with Pending := [], Ripes := m.Ripes.drop k, Out := { c.Out with Said := c.Out.Said ++ (m.Ripes.take k).map matT, Due := c.Out.Due ++ List.replicate k (now + 40) } } := by
    rw [he]
    show zq4 now m.Ripes { m with Pending := [] } = _
    rw [k2]
    simp only [f2]
  refine ⟨by rw [he], m, k, hm, hpm, f1, k1, hfin, f3, f4, f5, f6, f2, k3, k4, k5, ?_⟩
  rw [hfin]
  have hl : ((m.Ripes.take k).map matT).length = k := by rw [List.length_map, List.length_take]; omega
  refine zq5 ⟨by show (m.On && m.Gone) = false; rw [f3, f4]; exact g1.1, by show 0 ≤ m.Height; rw [f5]; show 0 ≤ c.Height + 1; have := g1.2; omega, ?_, by show 0 ≤ m.Time; rw [f6]; exact hn0, by show m.Time ≤ _; rw [f6]; exact ht.2, hpm.id0, hpm.id1⟩ ?_ hpm.set ?_ rfl
  · show m.Height < _; rw [f5]; show c.Height + 1 < _
    exact hh
  · have := zahg (n := 0) g2 (t := (m.Ripes.take k).map matT) (u := now + 40) (by omega) (by rw [hl]; exact k5)
    rw [hl] at this
    exact this
  · show (m.Ripes.drop k).all zna = true
    rw [List.all_eq_true]
    intro r hr
    exact List.all_eq_true.1 hpm.ripes r (List.mem_of_mem_drop hr)
end Go.Proofs.YtmakmlnfbdablaaGreat.Ab
namespace Go.Proofs.YtmakmlnfbdablaaGreat.Ab
open Go Go.RowKit
set_option linter.unusedVariables false
set_option linter.unusedSimpArgs false
theorem z5z {w w' : Wld} (h : OkW w) (hd : w.deeds < 600) (e1 : w'.deeds = w.deeds + 1) (e2 : w'.clock = w.clock) (p : GoodX w'.p) (ph : w'.p.Height ≤ w.deeds + 1) (pt : w'.p.Time ≤ w.clock) (pq : ((w'.p.Queue.length : Nat) : Int) ≤ w.deeds + 1)
    {i : Int} (ci : ConsW w' i) (cj : ∀ j : Int, 0 ≤ j ∧ j < 2 → j ≠ i → zc w'.consumers j = zc w.consumers j ∧ SameL w'.p w.p j) : OkW w' := by
  have d0 := h.d0
  refine ⟨by omega, by omega, by rw [e2]; exact h.t0, by rw [e2]; exact h.t1, p, by omega, by omega, by omega, fun j hj => ?_⟩
  by_cases e : j = i
  · rw [e]; exact ci
  · obtain ⟨c1, c2⟩ := cj j hj e
    exact (h.c j hj).more c1 c2 (by omega) (by omega)
theorem z93 {w w' : Wld} (h : OkW w) (hd : w.deeds < 600) (e1 : w'.deeds = w.deeds + 1) (e2 : w'.clock = w.clock) (e3 : w'.p = w.p) {i : Int} (hi : 0 ≤ i ∧ i < 2) {c : zb} (hc : w'.consumers = zpy w.consumers i c)
    (good : zj1 c = true) (height : c.Height ≤ w.deeds + 1) (time : c.Time ≤ w.clock) (size : ((c.Pending.length + c.Ripes.length : Nat) : Int) ≤ w.deeds + 1) (on : c.On = (zc w.consumers i).On) (gone : c.Gone = (zc w.consumers i).Gone)
    (said : ∀ s, s ∈ c.Out.Said → PkB s) (ho : (zc w.consumers i).On = true) : OkW w' := by
  have hw := h.c i hi
  have hci : zc w'.consumers i = c := by rw [hc, zpx hi]
  refine z5z (i := i) h hd e1 e2 (by rw [e3]; exact h.p) (by rw [e3]; have := h.ph; omega) (by rw [e3]; exact h.pt) (by rw [e3]; have := h.pq; omega) ?_ fun j hj hji => ⟨by rw [hc, znc hi hj hji], by rw [e3]; exact .refl _ _⟩
  have on' : w.p.Links.On.get i = true := by rw [← hw.on]; exact ho
  refine ⟨by rw [hci]; exact good, by rw [hci, e1]; exact height, by rw [hci, e2]; exact time, by rw [hci, e1]; exact size, by rw [hci, e3, on]; exact hw.on, by rw [hci, e3, gone]; exact hw.gone, by rw [e3]; exact hw.told, by rw [hci]; exact said, fun k => ?_⟩
  rw [e3, on'] at k; cases k
theorem zaks {a b : ByteArray} (h : a.toList = b.toList) : a = b := by
  rw [ByteArray.toList_eq, ByteArray.toList_eq] at h
  obtain ⟨⟨a⟩⟩ := a
  obtain ⟨⟨b⟩⟩ := b
  simp only at h
  rw [h]
theorem zar1 {r : Ripe} (h : zna r = true) : PkB (matT r) := ⟨matP r, zab3 h, by unfold matP; simp, rfl⟩
theorem zad2 {w : Wld} (h : OkW w) (hd : w.deeds < 600) {i : Int} (hi : 0 ≤ i ∧ i < 2) (ho : (zc w.consumers i).On = true) : OkW (zw2 (zay w) i).1 := by
  have hc := h.c i hi
  have h1 := h.t1
  have hh := hc.height
  obtain ⟨e0, m, k, hm, hpm, hl, hk, hf, f1, f2, f3, f4, f5, f6, f7, f8, hg⟩ := z7v hc.good ho ⟨hc.time, by omega⟩ (by omega)
  unfold zw2
  rw [if_neg (by show ¬ (z9s w.clock (zc w.consumers i)).2 ≠ 0; rw [e0]; simp)]
  refine z93 h hd rfl rfl rfl hi (c := (z9s w.clock (zc w.consumers i)).1) rfl hg ?_ ?_ ?_ ?_ ?_ ?_ ho
  all_goals rw [hf]
  · show m.Height ≤ _; rw [f3]; omega
  · show m.Time ≤ _; rw [f4]; omega
  · have := hc.size
    simp only [List.length_nil, List.length_drop]
    omega
  · exact f1
  · exact f2
  · intro s hs
    rcases List.mem_append.1 hs with hs | hs
    · exact hc.said s hs
    · obtain ⟨r, hr, rfl⟩ := List.mem_map.1 hs
      exact zar1 (List.all_eq_true.1 hpm.ripes r (List.mem_of_mem_take hr))
theorem z50 {c : zb} (hg : zj1 c = true) {q : Packet} (hq : q.Kind ≠ 1) {now : Int} (h : (zun q now c).1 = 0) :
    zez q = 0 ∧ 0 ≤ IntKind.i64.wrap (now + 40) ∧ c.Out.Closed = false ∧ c.Out.Said.length < 400 ∧ (zun q now c).2 = { c with Out := { c.Out with Said := c.Out.Said ++ [txt (zsk q)], Due := c.Out.Due ++ [IntKind.i64.wrap (now + 40)] } } ∧ zj1 (zun q now c).2 = true := by
  obtain ⟨k1, k2, k3⟩ := zaj7 h
  obtain ⟨l1, l2, l3, l4, _⟩ := zads k2
  obtain ⟨g1, g2, g3, g4, g5⟩ := zdm hg
  refine ⟨k1, l2, l3, l4, by rw [k3], ?_⟩
  rw [k3]
  exact zq5 g1 (z7n l1 l2 l4) g3 g4 g5
theorem zakt {w w' : Wld} (h : OkW w) (hd : w.deeds < 600) (e1 : w'.deeds = w.deeds + 1) (e2 : w'.clock = w.clock) (e3 : w'.p = w.p) {i : Int} (hi : 0 ≤ i ∧ i < 2) (ho : (zc w.consumers i).On = true) {q : Packet} (hq : q.Kind ≠ 1) (hs : (zun q w.clock (zc w.consumers i)).1 = 0) {f : A6 Bool}
    (hc : w'.consumers = zpy w.consumers i { (zun q w.clock (zc w.consumers i)).2 with Flags := f }) : OkW w' := by
  have hw := h.c i hi
  obtain ⟨s1, s2, s3, s4, s5, s6⟩ := z50 hw.good hq hs
  obtain ⟨g1, g2, g3, g4, g5⟩ := zdm s6
  have hz := hw.size; have hh := hw.height; have ht := hw.time
  refine z93 h hd e1 e2 e3 hi hc (zq5 g1 g2 g3 g4 g5) ?_ ?_ ?_ ?_ ?_ ?_ ho
  all_goals rw [s5]
  · show (zc w.consumers i).Height ≤ _; omega
  · exact ht
  · show (((zc w.consumers i).Pending.length + (zc w.consumers i).Ripes.length : Nat) : Int) ≤ _; omega
  · intro s hs
    rcases List.mem_append.1 hs with hs | hs
    · exact hw.said s hs
    · rw [List.mem_singleton.1 hs]; exact ⟨q, s1, hq, rfl⟩
theorem zafx {w : Wld} (h : OkW w) (hd : w.deeds < 600) {i : Int} {r : zb × Int} (hr : r.2 = 0 → OkW { zay w with consumers := zpy w.consumers i r.1 }) : OkW (putW (zay w) i r).1 := by
  unfold putW
  by_cases e : r.2 = 0
  · rw [if_neg (by simpa using e)]; exact hr e
  · rw [if_pos e]; exact zk7 h hd
theorem zano {w : Wld} (h : OkW w) (hd : w.deeds < 600) {i : Int} (hi : 0 ≤ i ∧ i < 2) (ho : (zc w.consumers i).On = true) (v : Int) : OkW (putW (zay w) i (z5n (zc w.consumers i) v w.clock)).1 := by
  refine zafx h hd fun h0 => ?_
  obtain ⟨_, _, _, _, _, _, _, hs, he⟩ := zafi h0
  rw [he]
  exact zakt h hd rfl rfl rfl hi ho (by simp) hs rfl
theorem zahh {w : Wld} (h : OkW w) (hd : w.deeds < 600) {i : Int} (hi : 0 ≤ i ∧ i < 2) (ho : (zc w.consumers i).On = true) (v n : Int) : OkW (putW (zay w) i (zrl (zc w.consumers i) v n w.clock)).1 := by
  refine zafx h hd fun h0 => ?_
  unfold zrl at h0 ⊢
  by_cases h1 : zj1 (zc w.consumers i) = false ∨ w.clock < 0 ∨ 1099511627776 < w.clock
  · rw [if_pos h1] at h0; cases h0
  rw [if_neg h1] at h0 ⊢
  by_cases h2 : (zc w.consumers i).On = false ∨ v < 0 ∨ 5 < v
  · rw [if_pos h2] at h0; cases h0
  rw [if_neg h2] at h0 ⊢
  by_cases h3 : n < 1 ∨ (zc w.consumers i).Id < n
  · rw [if_pos h3] at h0; cases h0
  rw [if_neg h3] at h0 ⊢
  exact zakt h hd rfl rfl rfl hi ho (q := ⟨4, n, v, maxC (zc w.consumers i) v, [], []⟩) (by simp) h0 (f := (zun ⟨4, n, v, maxC (zc w.consumers i) v, [], []⟩ w.clock (zc w.consumers i)).2.Flags) rfl
theorem zahi {p : za} (h : GoodX p) {i : Int} (hi : 0 ≤ i ∧ i < 2) {l : ze0} (hl : zet l) : GoodX { p with Links := z2x p.Links i l } := by
  have hlk : ∀ j : Int, 0 ≤ j ∧ j < 2 → LkX { p with Links := z2x p.Links i l } j := by
    intro j hj
    obtain ⟨a1, a2, a3, a4, a5, a6⟩ := h.lk hj
    refine ⟨a1, a2, a3, a4, ?_, a6⟩
    rw [zzg, z1x hi hj]
    split
    · exact hl
    · exact a5
  exact ⟨h.1, h.2.1, h.2.2.1, okLk_iff.2 (hlk 0 (by omega)), okLk_iff.2 (hlk 1 (by omega)), h.2.2.2.2.2⟩
theorem zahj {p : za} (h : GoodX p) (i : Int) (s : z75) : GoodX { p with Links := z9z p.Links i s } := by
  have hlk : ∀ j : Int, 0 ≤ j ∧ j < 2 → LkX { p with Links := z9z p.Links i s } j := by
    intro j hj
    obtain ⟨a1, a2, a3, a4, a5, a6⟩ := h.lk hj
    exact ⟨a1, a2, a3, a4, a5, a6⟩
  exact ⟨h.1, h.2.1, h.2.2.1, okLk_iff.2 (hlk 0 (by omega)), okLk_iff.2 (hlk 1 (by omega)), h.2.2.2.2.2⟩
theorem zaku {w : Wld} (h : OkW w) (hd : w.deeds < 600) {i : Int} (hi : 0 ≤ i ∧ i < 2) (ho : (zc w.consumers i).On = true) (back : Bool) : OkW (z7t (zay w) i back).1 := by
  unfold z7t
  have hw := h.c i hi
  cases back with
  | true =>
    rw [if_pos rfl]
    refine z92 (zk7 h hd) (zahj h.p i _) rfl rfl rfl fun j hj => ⟨rfl, rfl, ?_⟩
    rfl
  | false =>
    rw [if_neg (by simp)]
    obtain ⟨g1, g2, g3, g4, g5⟩ := zdm hw.good
    have hz := hw.size; have hh := hw.height
    exact z93 h hd rfl rfl rfl hi rfl (zq5 g1 g2 g3 g4 g5) (by show (zc w.consumers i).Height ≤ _; omega) hw.time (by show (((zc w.consumers i).Pending.length + (zc w.consumers i).Ripes.length : Nat) : Int) ≤ _; omega) rfl rfl hw.said ho
theorem z7w {w : Wld} {d : Deed} (h : (znn w d).2 = 0) : zet (zd8 w d.C d.Back) ∧ (zd8 w d.C d.Back).Closed = false ∧ (zd8 w d.C d.Back).Got + 1 ≤ ((zd8 w d.C d.Back).Said.length : Int) ∧ (zd8 w d.C d.Back).Got + 1 ≤ z90 w d.C d.Back ∧
    zk6 (zd8 w d.C d.Back) d.Forged = (zd8 w d.C d.Back).Said.getD (zd8 w d.C d.Back).Got.toNat .empty ∧ w.clock < (zd8 w d.C d.Back).Due.getD (zd8 w d.C d.Back).Got.toNat 0 ∧
    (znn w d).1 = { zd8 w d.C d.Back with Got := (zd8 w d.C d.Back).Got + 1 } ∧ zet (znn w d).1 := by
  have hs : (zd8 w d.C d.Back).Got + 1 ≤ z90 w d.C d.Back := by
    unfold znn zot at h
    by_cases h1 : ¬ zet (zd8 w d.C d.Back)
    · rw [if_pos h1] at h; cases h
    rw [if_neg h1] at h
    have hl := Classical.not_not.1 h1
    have e4 : (zd8 w d.C d.Back).Said.length ≤ 400 := hl.2.1
    have hw : IntKind.i64.wrap ((zd8 w d.C d.Back).Got + 1) = (zd8 w d.C d.Back).Got + 1 := zj (by have := hl.2.2.1; omega) (by have := hl.2.2.2.1; omega)
    rw [hw] at h
    by_cases h2 : (zd8 w d.C d.Back).Closed = true
    · rw [if_pos h2] at h; cases h
    rw [if_neg h2, if_neg (by simp)] at h
    by_cases h3 : z90 w d.C d.Back < (zd8 w d.C d.Back).Got + 1 ∨ ((zd8 w d.C d.Back).Said.length : Int) < (zd8 w d.C d.Back).Got + 1 ∨ ((zd8 w d.C d.Back).Said.getD (zd8 w d.C d.Back).Got.toNat .empty).toList ≠ (zk6 (zd8 w d.C d.Back) d.Forged).toList
    · rw [if_pos h3] at h; cases h
    · simp only [not_or] at h3; omega
  obtain ⟨h1, h2, h3, h4, h5, h6, h7⟩ := zagm h
  have e4 : (zd8 w d.C d.Back).Said.length ≤ 400 := h1.2.1
  have hw : IntKind.i64.wrap ((zd8 w d.C d.Back).Got + 1) = (zd8 w d.C d.Back).Got + 1 := zj (by have := h1.2.2.1; omega) (by have := h1.2.2.2.1; omega)
  rw [hw] at h4
  have he : (znn w d).1 = { zd8 w d.C d.Back with Got := (zd8 w d.C d.Back).Got + 1 } := by
    unfold znn
    rw [h7, hw]
  refine ⟨h1, Bool.eq_false_iff.2 h2, h4, hs, ?_, h6, he, ?_⟩
  · exact (zaks h5).symm
  · rw [he]
    obtain ⟨g1, g2, g3, g4, g5⟩ := h1
    exact ⟨g1, g2, by show 0 ≤ (zd8 w d.C d.Back).Got + 1; omega, h4, g5⟩
end Go.Proofs.YtmakmlnfbdablaaGreat.Ab
namespace Go.Proofs.YtmakmlnfbdablaaGreat.Ab
open Go Go.RowKit
set_option linter.unusedVariables false
set_option linter.unusedSimpArgs false
theorem z51 {c : zb} (hg : zj1 c = true) {s : List UInt8} (h : (zwd c s).2 = 0) : c.On = true ∧ zez (zax s).1 = 0 ∧ (zax s).1.Kind = 1 ∧ (zax s).2 = 0 ∧ (zwd c s).1 = { c with Pending := c.Pending ++ [(zax s).1] } ∧ zj1 (zwd c s).1 = true := by
  unfold zwd at h ⊢
  rw [if_neg (by rw [hg]; simp)] at h ⊢
  by_cases h1 : c.On = false
  · rw [if_pos h1] at h; cases h
  rw [if_neg h1] at h ⊢
  by_cases h2 : (zax s).2 = 0
  · rw [if_neg (by simpa using h2)] at h ⊢
    by_cases h3 : (zax s).1.Kind = 1
    · rw [if_neg (by simpa using h3)]
      have gp := zafr h2
      refine ⟨by simpa using h1, gp, h3, h2, rfl, ?_⟩
      obtain ⟨g1, g2, g3, g4, g5⟩ := zdm hg
      refine zq5 g1 g2 g3 g4 ?_
      show (c.Pending ++ [(zax s).1]).all zny = true
      rw [List.all_append, g5]
      simp [zny, gp, h3]
    · rw [if_pos h3] at h; cases h
  · rw [if_pos h2] at h; exact absurd h h2
theorem z2z {p : za} (hg : zal p = true) {i : Int} {s : List UInt8} (h : (znz p i s).2 = 0) : (0 ≤ i ∧ i < 2) ∧ p.Links.On.get i = true ∧ zez (zax s).1 = 0 ∧ (zax s).1.Kind ≠ 1 ∧ (zax s).2 = 0 ∧ (znz p i s).1 = { p with Queue := p.Queue ++ [⟨i, (zax s).1⟩] } ∧ GoodX (znz p i s).1 := by
  unfold znz at h ⊢
  rw [if_neg (by rw [hg]; simp)] at h ⊢
  by_cases h1 : (0 ≤ i ∧ i < 2) ∧ p.Links.On.get i = true
  · rw [if_pos h1] at h ⊢
    by_cases h2 : (zax s).2 = 0
    · rw [if_neg (by simpa using h2)] at h ⊢
      by_cases h3 : (zax s).1.Kind = 1
      · rw [if_pos h3] at h; cases h
      · rw [if_neg h3]
        have gp := zafr h2
        have hx := (goodPr_iff.1 hg).1
        refine ⟨h1.1, h1.2, gp, h3, h2, rfl, hx.1, hx.2.1, hx.2.2.1, hx.2.2.2.1, hx.2.2.2.2.1, ?_⟩
        show (p.Queue ++ [_]).all _ = true
        rw [List.all_append, Bool.and_eq_true]
        refine ⟨hx.2.2.2.2.2, List.all_eq_true.2 fun b hb => ?_⟩
        rw [List.mem_singleton.1 hb]
        exact ask_iff.2 ⟨h1.1, h1.2, gp, h3⟩
    · rw [if_pos h2] at h; exact absurd h h2
  · rw [if_neg h1] at h; cases h
theorem zad3 {w : Wld} (h : OkW w) (hd : w.deeds < 600) {d : Deed} (hi : 0 ≤ d.C ∧ d.C < 2) (ho : (zc w.consumers d.C).On = true) : OkW (zq7 (zay w) d).1 := by
  have hw := h.c d.C hi
  unfold zq7
  by_cases h0 : (znn w d).2 = 0
  · rw [if_neg (by show ¬ (znn w d).2 ≠ 0; simpa using h0)]
    obtain ⟨f1, f2, f3, f4, f5, f6, f7, f8⟩ := z7w h0
    cases hb : d.Back with
    | true =>
      rw [if_pos rfl]
      rw [hb] at f5
      have e0 : zd8 w d.C true = (zc w.consumers d.C).Out := rfl
      by_cases h1 : (znz w.p d.C (zk6 (zd8 w d.C true) d.Forged).data.toList).2 = 0
      · rw [if_neg (by show ¬ (znz w.p d.C (zk6 (zd8 w d.C true) d.Forged).data.toList).2 ≠ 0; simpa using h1)]
        obtain ⟨q1, q2, q3, q4, q5, q6, q7⟩ := z2z h.pr h1
        obtain ⟨g1, g2, g3, g4, g5⟩ := zdm hw.good
        have hz := hw.size; have hh := hw.height; have hp := h.ph; have hq := h.pq
        have hr : (znn w d).1 = { (zc w.consumers d.C).Out with Got := (zc w.consumers d.C).Out.Got + 1 } := by rw [f7, hb]; rfl
        have e6 : (znz (zay w).p d.C (zk6 (zd8 (zay w) d.C true) d.Forged).data.toList).1 = { w.p with Queue := w.p.Queue ++ [⟨d.C, (zax (zk6 (zd8 w d.C true) d.Forged).data.toList).1⟩] } := q6
        simp only [e6]
        refine z5z (i := d.C) h hd rfl rfl (by rw [← q6]; exact q7) (by show w.p.Height ≤ _; omega) h.pt (by show (((w.p.Queue ++ [_]).length : Nat) : Int) ≤ _; rw [List.length_append, List.length_singleton]; omega) ?_ fun j hj hji => ⟨znc hi hj hji _, rfl, rfl, rfl⟩
        have hci : zc (zpy (zay w).consumers d.C { zc (zay w).consumers d.C with Out := (znn (zay w) d).1 }) d.C = { zc w.consumers d.C with Out := (znn w d).1 } := zpx hi _
        refine ⟨?_, ?_, ?_, ?_, ?_, ?_, hw.told, ?_, fun k => ?_⟩
        · rw [hci]; exact zq5 g1 f8 g3 g4 g5
        · rw [hci]; show (zc w.consumers d.C).Height ≤ w.deeds + 1; omega
        · rw [hci]; exact hw.time
        · rw [hci]; show (((zc w.consumers d.C).Pending.length + (zc w.consumers d.C).Ripes.length : Nat) : Int) ≤ w.deeds + 1; omega
        · rw [hci]; exact hw.on
        · rw [hci]; exact hw.gone
        · rw [hci]; show ∀ s, s ∈ (znn w d).1.Said → PkB s; rw [hr]; exact hw.said
        · have k' : w.p.Links.On.get d.C = false := k
          rw [q2] at k'; cases k'
      · rw [if_pos (by exact h1)]; exact zk7 h hd
    | false =>
      rw [if_neg (by simp)]
      rw [hb] at f5
      by_cases h1 : (zwd (zc w.consumers d.C) (zk6 (zd8 w d.C false) d.Forged).data.toList).2 = 0
      · rw [if_neg (by show ¬ (zwd (zc w.consumers d.C) (zk6 (zd8 w d.C false) d.Forged).data.toList).2 ≠ 0; simpa using h1)]
        obtain ⟨q1, q2, q3, q4, q5, q6⟩ := z51 hw.good h1
        have hz := hw.size; have hh := hw.height; have hp := h.ph; have hq := h.pq
        have hr : (znn w d).1 = { (zm w.p.Links d.C).Out with Got := (zm w.p.Links d.C).Out.Got + 1 } := by rw [f7, hb]; rfl
        have on' : w.p.Links.On.get d.C = true := by rw [← hw.on]; exact ho
        refine z5z (i := d.C) h hd rfl rfl (zahi h.p hi f8) (by show w.p.Height ≤ _; omega) h.pt (by show ((w.p.Queue.length : Nat) : Int) ≤ _; omega) ?_ fun j hj hji => ⟨znc hi hj hji _, rfl, rfl, ?_⟩
        · have hci : zc (zpy (zay w).consumers d.C (zwd (zc (zay w).consumers d.C) (zk6 (zd8 (zay w) d.C false) d.Forged).data.toList).1) d.C = (zwd (zc w.consumers d.C) (zk6 (zd8 w d.C false) d.Forged).data.toList).1 := zpx hi _
          refine ⟨?_, ?_, ?_, ?_, ?_, ?_, ?_, ?_, fun k => ?_⟩
          · rw [hci]; exact q6
          · rw [hci, q5]; show (zc w.consumers d.C).Height ≤ w.deeds + 1; omega
          · rw [hci, q5]; exact hw.time
          · rw [hci, q5]
            show ((((zc w.consumers d.C).Pending ++ [_]).length + (zc w.consumers d.C).Ripes.length : Nat) : Int) ≤ w.deeds + 1
            rw [List.length_append, List.length_singleton]; omega
          · rw [hci, q5]; exact hw.on
          · rw [hci, q5]; exact hw.gone
          · show ∀ s, s ∈ (zm (z2x w.p.Links d.C (znn w d).1) d.C).Out.Said → Pk1 s
            rw [z1x hi hi, if_pos rfl, hr]; exact hw.told
          · rw [hci, q5]; exact hw.said
          · have k' : w.p.Links.On.get d.C = false := k
            rw [on'] at k'; cases k'
        · show (zm (z2x w.p.Links d.C (znn w d).1) j).Out.Said = _
          rw [z1x hi hj, if_neg hji]
      · rw [if_pos (by exact h1)]; exact zk7 h hd
  · rw [if_pos (by exact h0)]; exact zk7 h hd
theorem zad4 {w : Wld} (h : OkW w) (hd : w.deeds < 600) : OkW (zjd (zay w)).1 := by
  have ht : zal w.p = true ∧ w.p.Time ≤ w.clock ∧ w.clock ≤ 1099511627776 := ⟨h.pr, h.pt, by have := h.t1; omega⟩
  unfold zjd
  rw [if_neg (by show ¬ (zli w.p w.clock).2.2 ≠ 0; rw [z9y ht]; simp)]
  obtain ⟨r1, r2, r3, r4, r5, r6, r7, r8⟩ := zaft ht
  obtain ⟨S, D, M, e, hS, hdn, hl, hm⟩ := z3n ht.1 w.clock
  have hg := zani ht.1 ht.2
  have hp := h.ph; have hq := h.pq; have d0 := h.d0
  refine ⟨by show 0 ≤ w.deeds + 1; omega, by show w.deeds + 1 ≤ 600; omega, h.t0, h.t1, hg, by show (zli w.p w.clock).1.Height ≤ w.deeds + 1; rw [r1]; omega, by show (zli w.p w.clock).1.Time ≤ w.clock; rw [r2]; exact Int.le_refl _, by show (((zli w.p w.clock).1.Queue.length : Nat) : Int) ≤ w.deeds + 1; rw [r5]; omega, fun i hi => ?_⟩
  obtain ⟨D', -, hD⟩ := zank ht hi
  have hw := h.c i hi
  have hz := hw.size; have hh := hw.height
  have o1 : (zli w.p w.clock).1.Links.On.get i = w.p.Links.On.get i := by rw [r6]
  have o2 : (zli w.p w.clock).1.Links.Gone.get i = w.p.Links.Gone.get i := by rw [r7]
  refine ⟨hw.good, by show (zc w.consumers i).Height ≤ w.deeds + 1; omega, hw.time, by show (((zc w.consumers i).Pending.length + (zc w.consumers i).Ripes.length : Nat) : Int) ≤ w.deeds + 1; omega, hw.on.trans o1.symm, hw.gone.trans o2.symm, ?_, hw.said, ?_⟩
  · show ∀ s, s ∈ (zm (zli w.p w.clock).1.Links i).Out.Said → Pk1 s
    rw [← zzg]
    rcases hD with ⟨-, -, -, e4, -⟩ | ⟨-, -, -, -, -, -, -, e8, e9⟩
    · rw [e4]; exact hw.told
    · rw [e9]
      intro s hs
      rcases List.mem_append.1 hs with hs | hs
      · exact hw.told s hs
      · rw [List.mem_singleton.1 hs]; exact ⟨_, e8, rfl, rfl⟩
  · intro k1 k2
    have k1' : w.p.Links.On.get i = false := o1.symm.trans k1
    obtain ⟨c1, c2⟩ := hw.fresh k1' (o2.symm.trans k2)
    refine ⟨c1, ?_⟩
    show (zm (zli w.p w.clock).1.Links i).Out.Said = []
    rw [← zzg]
    rcases hD with ⟨-, -, -, e4, -⟩ | ⟨-, -, -, e4, -⟩
    · rw [e4]; exact c2
    · rw [k1'] at e4; cases e4
theorem zwh {L : Links} {i j H : Int} {T : List Power} {f : Bool} (hi : 0 ≤ i ∧ i < 2) (hj : 0 ≤ j ∧ j < 2) : zm (zic L i H T f) j = if j = i then ⟨true, false, H, T, f, [], ⟨[], [], 0, false⟩, ⟨0, 0, 0, 0⟩⟩ else zm L j := by
  unfold zm zic
  simp only [zar _ _ hi hj]
  by_cases e : j = i
  · simp only [if_pos e]
  · simp only [if_neg e]
theorem zzh {p : za} {i : Int} (h : (zef p i).2 = 0) : zal p = true ∧ (0 ≤ i ∧ i < 2) ∧ p.Links.Gone.get i = false ∧ p.Links.On.get i = false ∧ 1 ≤ p.Height ∧ p.Set.length ≠ 0 ∧ (zef p i).1 = zn0 p i (p.Stake.Waits.map (zi3 i p.Height)) (zzf p) := by
  unfold zef at h ⊢
  cases hg : zal p with
  | false => rw [if_pos hg] at h; cases h
  | true =>
    rw [if_neg (by rw [hg]; simp)] at h
    rw [if_neg (by simp)]
    by_cases hi : 0 ≤ i ∧ i < 2
    · rw [if_pos hi] at h ⊢
      by_cases h1 : p.Links.Gone.get i = true
      · rw [if_pos h1] at h; cases h
      rw [if_neg h1] at h ⊢
      by_cases h2 : p.Links.On.get i = true
      · rw [if_pos h2] at h; cases h
      rw [if_neg h2] at h ⊢
      by_cases h3 : p.Height < 1 ∨ p.Set.length = 0
      · rw [if_pos h3] at h; cases h
      rw [if_neg h3]
      simp only [not_or] at h3
      exact ⟨rfl, hi, Bool.eq_false_iff.2 h1, Bool.eq_false_iff.2 h2, by omega, h3.2, rfl⟩
    · rw [if_neg hi] at h; cases h
theorem zahk {p : za} (hx : GoodX p) {i : Int} (hi : 0 ≤ i ∧ i < 2) (ho : p.Links.On.get i = false) : GoodX (zn0 p i (p.Stake.Waits.map (zi3 i p.Height)) (zzf p)) := by
  obtain ⟨b1, b2, b3, b4, b5, b6, b7⟩ := hx.1
  have hf : ∀ w, (zi3 i p.Height w).Number = w.Number ∧ (zi3 i p.Height w).D = w.D ∧ (zi3 i p.Height w).V = w.V ∧ (zi3 i p.Height w).Amount = w.Amount ∧ (zi3 i p.Height w).Height = w.Height ∧ (zi3 i p.Height w).Due = w.Due := by
    intro w; unfold zi3; split <;> exact ⟨rfl, rfl, rfl, rfl, rfl, rfl⟩
  have gs : GoodS { p.Stake with Waits := p.Stake.Waits.map (zi3 i p.Height) } := by
    refine ⟨b1, ⟨b2.1, b2.2.1, by show (p.Stake.Waits.map _).length ≤ 60; rw [List.length_map]; exact b2.2.2⟩, b3, zwx (fun w hw => ⟨(hf w).1, (hf w).2.1, (hf w).2.2.1, by rw [(hf w).2.2.2.1]; exact hw, (hf w).2.2.2.2.1, (hf w).2.2.2.2.2⟩) b4, b5, ?_, b7⟩
    show zrn (p.Stake.Waits.map _) = _
    rw [z9r (fun w => (hf w).2.2.2.1)]; exact b6
  have hlk : ∀ j : Int, 0 ≤ j ∧ j < 2 → LkX (zn0 p i (p.Stake.Waits.map (zi3 i p.Height)) (zzf p)) j := by
    intro j hj
    obtain ⟨a1, a2, a3, a4, a5, a6⟩ := hx.lk hj
    have el := zwh (L := p.Links) (H := p.Height) (T := p.Set) (f := zzf p) hi hj
    by_cases e : j = i
    · rw [if_pos e] at el
      have z := hx.2.1.1
      exact ⟨by show ¬ ((zm (zic p.Links i p.Height p.Set (zzf p)) j).On = true ∧ (zm (zic p.Links i p.Height p.Set (zzf p)) j).Gone = true); rw [el]; simp, by show 0 ≤ (zm (zic p.Links i p.Height p.Set (zzf p)) j).Base; rw [el]; exact z,
        by show (zm (zic p.Links i p.Height p.Set (zzf p)) j).Base ≤ p.Height; rw [el]; exact Int.le_refl _, by show zy 1 (-1) (zm (zic p.Links i p.Height p.Set (zzf p)) j).Told = true; rw [el]; exact hx.2.2.1,
        by show zet (zm (zic p.Links i p.Height p.Set (zzf p)) j).Out; rw [el]; exact z5o, by show zan (-1) (zm (zic p.Links i p.Height p.Set (zzf p)) j).Done = true; rw [el]; rfl⟩
    · rw [if_neg e] at el
      exact ⟨by show ¬ ((zm (zic p.Links i p.Height p.Set (zzf p)) j).On = true ∧ (zm (zic p.Links i p.Height p.Set (zzf p)) j).Gone = true); rw [el]; exact a1, by show 0 ≤ (zm (zic p.Links i p.Height p.Set (zzf p)) j).Base; rw [el]; exact a2,
        by show (zm (zic p.Links i p.Height p.Set (zzf p)) j).Base ≤ p.Height; rw [el]; exact a3, by show zy 1 (-1) (zm (zic p.Links i p.Height p.Set (zzf p)) j).Told = true; rw [el]; exact a4,
        by show zet (zm (zic p.Links i p.Height p.Set (zzf p)) j).Out; rw [el]; exact a5, by show zan (-1) (zm (zic p.Links i p.Height p.Set (zzf p)) j).Done = true; rw [el]; exact a6⟩
  refine ⟨gs, hx.2.1, hx.2.2.1, okLk_iff.2 (hlk 0 (by omega)), okLk_iff.2 (hlk 1 (by omega)), List.all_eq_true.2 fun b hb => ask_iff.2 ?_⟩
  obtain ⟨q1, q2, q3, q4⟩ := hx.ask hb
  refine ⟨q1, ?_, q3, q4⟩
  show (p.Links.On.set i true).get b.C = true
  rw [zar _ _ hi q1]
  split
  · rfl
  · exact q2
theorem zakv {w : Wld} (h : OkW w) (hd : w.deeds < 600) (i : Int) : OkW (z2y (zay w) i).1 := by
  unfold z2y
  by_cases h0 : (zef w.p i).2 = 0
  · rw [if_neg (by show ¬ (zef w.p i).2 ≠ 0; simpa using h0)]
    obtain ⟨f1, hi, f3, f4, f5, f6, f7⟩ := zzh h0
    have hgb := zahk h.p hi f4
    have hp := h.ph; have hq := h.pq; have d0 := h.d0; have d1 := h.d1
    have e6 : (zef (zay w).p i).1 = zn0 w.p i (w.p.Stake.Waits.map (zi3 i w.p.Height)) (zzf w.p) := f7
    simp only [e6]
    refine z5z (i := i) h hd rfl rfl hgb (by show w.p.Height ≤ _; omega) h.pt (by show ((w.p.Queue.length : Nat) : Int) ≤ _; omega) ?_ fun j hj hji => ⟨znc hi hj hji _, .of ?_⟩
    · have hci : zc (zpy (zay w).consumers i (zsq w.p.Set w.p.Height w.clock)) i = zsq w.p.Set w.p.Height w.clock := zpx hi _
      have el := zwh (L := w.p.Links) (H := w.p.Height) (T := w.p.Set) (f := zzf w.p) hi hi
      rw [if_pos rfl] at el
      have t0 := h.t0; have t1 := h.t1; have z := h.p.2.1.1
      refine ⟨?_, ?_, ?_, ?_, ?_, ?_, ?_, ?_, fun k => ?_⟩
      · show zj1 (zc (zpy (zay w).consumers i (zsq w.p.Set w.p.Height w.clock)) i) = true
        rw [hci]
        exact zq5 ⟨rfl, by show (0 : Int) ≤ 0; omega, by show (0 : Int) < _; omega, t0, by show w.clock ≤ _; omega, z, by show w.p.Height ≤ _; omega⟩ z5o h.p.2.2.1 rfl rfl
      · show (zc (zpy (zay w).consumers i (zsq w.p.Set w.p.Height w.clock)) i).Height ≤ w.deeds + 1
        rw [hci]; show (0 : Int) ≤ _; omega
      · show (zc (zpy (zay w).consumers i (zsq w.p.Set w.p.Height w.clock)) i).Time ≤ w.clock
        rw [hci]; exact Int.le_refl _
      · show (((zc (zpy (zay w).consumers i (zsq w.p.Set w.p.Height w.clock)) i).Pending.length + (zc (zpy (zay w).consumers i (zsq w.p.Set w.p.Height w.clock)) i).Ripes.length : Nat) : Int) ≤ w.deeds + 1
        rw [hci]; show ((0 : Nat) : Int) ≤ _; omega
      · show (zc (zpy (zay w).consumers i (zsq w.p.Set w.p.Height w.clock)) i).On = (zm (zic w.p.Links i w.p.Height w.p.Set (zzf w.p)) i).On
        rw [hci, el]; rfl
      · show (zc (zpy (zay w).consumers i (zsq w.p.Set w.p.Height w.clock)) i).Gone = (zm (zic w.p.Links i w.p.Height w.p.Set (zzf w.p)) i).Gone
        rw [hci, el]; rfl
      · show ∀ s, s ∈ (zm (zic w.p.Links i w.p.Height w.p.Set (zzf w.p)) i).Out.Said → Pk1 s
        rw [el]; intro s hs; cases hs
      · show ∀ s, s ∈ (zc (zpy (zay w).consumers i (zsq w.p.Set w.p.Height w.clock)) i).Out.Said → PkB s
        rw [hci]; intro s hs; cases hs
      · have k' : (zm (zic w.p.Links i w.p.Height w.p.Set (zzf w.p)) i).On = false := k
        rw [el] at k'; cases k'
    · show zm (zic w.p.Links i w.p.Height w.p.Set (zzf w.p)) j = _
      rw [zwh hi hj, if_neg hji]
  · rw [if_pos (by exact h0)]; exact zk7 h hd
theorem zx9 {L : Links} {i j : Int} (hi : 0 ≤ i ∧ i < 2) (hj : 0 ≤ j ∧ j < 2) : zm (zw0 L i) j = if j = i then { zm L j with On := false, Gone := true, Fresh := false, Done := [], Out := { (zm L j).Out with Closed := true } } else zm L j := by
  unfold zm zw0
  simp only [zar _ _ hi hj]
  by_cases e : j = i
  · simp only [if_pos e]
  · simp only [if_neg e]
theorem zab4 {w : Wld} (h : OkW w) {i : Int} (hi : 0 ≤ i ∧ i < 2) (ho : (zc w.consumers i).On = true) : ztx w.p i = ztw w.p i ∧ zzd (zc w.consumers i) = { zc w.consumers i with On := false, Gone := true, Out := { (zc w.consumers i).Out with Closed := true } } := by
  have on' : w.p.Links.On.get i = true := by rw [← (h.c i hi).on]; exact ho
  exact ⟨by unfold ztx; rw [if_pos ⟨h.pr, hi, on'⟩], by unfold zzd; rw [if_neg (by rw [ho]; simp)]⟩
theorem zahl {w : Wld} (h : OkW w) (hd : w.deeds < 600) {d : Deed} (hi : 0 ≤ d.C ∧ d.C < 2) (ho : (zc w.consumers d.C).On = true) : OkW (zwg (zay w) d).1 := by
  unfold zwg
  by_cases h0 : (z91 w d).2 = 0
  · rw [if_neg (by show ¬ (z91 w d).2 ≠ 0; simpa using h0)]
    obtain ⟨f1, f2⟩ := zab4 h hi ho
    have hw := h.c d.C hi
    have e1 : ztx (zay w).p d.C = ztw w.p d.C := f1
    have e2 : zzd (zc (zay w).consumers d.C) = { zc w.consumers d.C with On := false, Gone := true, Out := { (zc w.consumers d.C).Out with Closed := true } } := f2
    simp only [e1, e2]
    obtain ⟨g1, g2, g3, g4, g5⟩ := zdm hw.good
    have hz := hw.size; have hh := hw.height; have hp := h.ph; have hq := h.pq
    have hqf : (w.p.Queue.filter (z3m d.C)).length ≤ w.p.Queue.length := List.length_filter_le _ _
    have el := zx9 (L := w.p.Links) hi hi
    rw [if_pos rfl] at el
    refine z5z (i := d.C) h hd rfl rfl (goodPr_iff.1 (zabz h.pr hi)).1 (by show w.p.Height ≤ _; omega) h.pt (by show (((w.p.Queue.filter (z3m d.C)).length : Nat) : Int) ≤ _; omega) ?_ fun j hj hji => ⟨znc hi hj hji _, .of ?_⟩
    · have hci := zpx (C := (zay w).consumers) hi { zc w.consumers d.C with On := false, Gone := true, Out := { (zc w.consumers d.C).Out with Closed := true } }
      refine ⟨?_, ?_, ?_, ?_, ?_, ?_, ?_, ?_, fun k k2 => ?_⟩
      · rw [hci]; exact zq5 ⟨rfl, g1.2⟩ g2 g3 g4 g5
      · rw [hci]; show (zc w.consumers d.C).Height ≤ w.deeds + 1; omega
      · rw [hci]; exact hw.time
      · rw [hci]; show (((zc w.consumers d.C).Pending.length + (zc w.consumers d.C).Ripes.length : Nat) : Int) ≤ w.deeds + 1; omega
      · rw [hci]; exact (congrArg Link.On el).symm
      · rw [hci]; exact (congrArg Link.Gone el).symm
      · show ∀ s, s ∈ (zm (zw0 w.p.Links d.C) d.C).Out.Said → Pk1 s
        rw [el]; exact hw.told
      · rw [hci]; exact hw.said
      · have k' : (zm (zw0 w.p.Links d.C) d.C).Gone = false := k2
        rw [el] at k'; cases k'
    · show zm (zw0 w.p.Links d.C) j = _
      rw [zx9 hi hj, if_neg hji]
  · rw [if_pos (by exact h0)]; exact zk7 h hd
theorem zad5 {w : Wld} (h : OkW w) (hd : w.deeds < 600) (d : Deed) : OkW (zq8 (zay w) d).1 := by
  have hm := zk7 h hd
  unfold zq8
  by_cases c1 : d.Kind < 4 ∨ 12 < d.Kind
  · rw [if_pos c1]; exact hm
  rw [if_neg c1]
  by_cases c2 : d.C < 0 ∨ 2 ≤ d.C
  · rw [if_pos c2]; exact hm
  rw [if_neg c2]
  have hi : 0 ≤ d.C ∧ d.C < 2 := by omega
  by_cases c3 : d.Kind ≠ 4 ∧ (zay w).consumers.On.get d.C = false
  · rw [if_pos c3]; exact hm
  rw [if_neg c3]
  by_cases c4 : d.Kind = 4
  · rw [if_pos c4]; exact zakv h hd _
  rw [if_neg c4]
  have ho : (zc w.consumers d.C).On = true := by
    cases e : (zc w.consumers d.C).On with
    | true => rfl
    | false => exact absurd ⟨c4, e⟩ c3
  repeat' split
  · exact zad2 h hd hi ho
  · exact zaku h hd hi ho _
  · exact zad3 h hd hi ho
  · exact zahl h hd hi ho
  · exact zano h hd hi ho _
  · exact zahh h hd hi ho _ _
  · exact hm
theorem zar2 {w : Wld} (h : OkW w) (hd : w.deeds < 600) (d : Deed) : OkW (actW (zay w) d).1 := by
  have hm := zk7 h hd
  unfold actW
  repeat' split
  · exact zab2 hm _ _ _
  · exact z6s hm _ _ _
  · exact zahe hm _
  · exact zanl hm _ _
  · exact zanm hm _
  · exact zad4 h hd
  · exact zad5 h hd d
theorem z7x {w : Wld} (h : OkW w) (d : Deed) : OkW (doW w d).1 := by
  unfold doW
  split
  · exact h
  · rename_i hd; exact zar2 h (by omega) d
end Go.Proofs.YtmakmlnfbdablaaGreat.Ab
namespace Go.Proofs.YtmakmlnfbdablaaGreat.Ab
open Go Go.RowKit
set_option linter.unusedVariables false
set_option linter.unusedSimpArgs false
theorem zakw : zq1 = some newW := by
  rw [zq1, ztj, Tr.run_bind z7o, Tr.run_leaf]; rfl
theorem zanp (w : Wld) : zig w = some (w.clock, w) := by rw [zig, zf9, Tr.run_leaf]
theorem zw3 {l : List Power} (h : l.length * 16 ≤ 140737488355328) : zb5 l = some l := by
  rw [zb5, zmj, Tr.run_guard (by rw [zbt]; omega), Tr.run_leaf]
theorem z1y {l : List Int} (h : l.length * 8 ≤ 140737488355328) : zce l = some l := by
  rw [zce, zkw, Tr.run_guard (by rw [zpu]; omega), Tr.run_leaf]
theorem zab5 {p : Packet} (h1 : p.Set.length * 16 ≤ 140737488355328) (h2 : p.Done.length * 8 ≤ 140737488355328) : zfp p = some p := by
  rw [zfp, zml, zw3 h1, z1y h2, Tr.run_guard (by rfl), Tr.run_guard (by rfl), Tr.run_leaf]; rfl
theorem z7y {l : ze0} (h1 : l.Said.length * 16 ≤ 140737488355328) (h2 : l.Due.length * 8 ≤ 140737488355328) : zbs l = some l := by
  rw [zbs, zky, z1y h2, Tr.run_guard (by show (0 + l.Said.length) * 16 ≤ _; omega), Tr.run_guard (by rfl), Tr.run_leaf]; rfl
theorem zab6 {w : Wld} (hf : FitPr 140737488351232 w.p) : zdr w = some (w.p, w) := by
  have hw := hf.waits; have hs := hf.set; have hq := hf.queue
  have turn : ∀ (c : Nat), c < 2 → ∀ z, (zaq (c : Int) w z w.p).run = some (.inl (((c + 1 : Nat) : Int), w, z, w.p)) := by
    intro c hc z
    have e1 := zw3 (l := w.p.Links.Told.get c) (by have := hf.told c; omega)
    have e2 := z1y (l := w.p.Links.Done.get c) (by have := hf.done c; omega)
    have e3 := z7y (l := (zm w.p.Links c).Out) (by have := hf.said c; show (w.p.Links.Said.get c).length * 16 ≤ _; omega) (by have := hf.due c; show (w.p.Links.Due.get c).length * 8 ≤ _; omega)
    simp only [zaq]
    rw [Tr.run_true (by simp; omega), Tr.run_guard ⟨by omega, by omega⟩, e1, e2, e3, Tr.run_guard (by rfl), Tr.run_guard (by rfl), Tr.run_guard (by rfl), Tr.run_leaf, z5 (by omega)]
    simp only [Option.getD_some]
    have hb : 0 ≤ (c : Int) ∧ (c : Int) < 2 := by omega
    unfold zm
    simp only [zpw _ hb]
  have l1 : ∀ z, zeb 0 w z w.p = some (w, z, w.p) := by
    intro z
    rw [zeb, zb7 (s' := (((1 : Nat) : Int), w, z, w.p)) (turn 0 (by omega) z), zb7 (s' := (((2 : Nat) : Int), w, z, w.p)) (turn 1 (by omega) z), zgk (by
      show (zaq 2 w z w.p).run = _
      simp only [zaq]
      rw [Tr.run_false (by simp), Tr.run_leaf])]
  have l2 : ∀ z q, zec w.p.Queue w.p.Queue.length 0 w z q [] = some (w, z, q, w.p.Queue) := by
    intro z q
    rw [zec]
    have := zox (F := fun s : (List Asked) × Int × Int × Wld × za × za × (List Asked) => (zbn s.1 s.2.1 s.2.2.1 s.2.2.2.1 s.2.2.2.2.1 s.2.2.2.2.2.1 s.2.2.2.2.2.2).run) w.p.Queue.length (fun i t => (w.p.Queue, (w.p.Queue.length : Int), (i : Int), w, z, q, t)) (fun i t => t = w.p.Queue.take i) (fun _ _ => (w, z, q, w.p.Queue)) ?_ ?_ 0 [] (Nat.zero_le _) rfl
    · exact this
    · rintro t rfl
      simp only [zbn]; rw [Tr.run_false (by simp), Tr.run_leaf, List.take_length]
    · rintro i t hi ht
      obtain ⟨p1, p2⟩ := hf.ps _ (zhw (l := w.p.Queue) (k := i) hi default)
      have htl : t.length ≤ i := by rw [ht, List.length_take]; omega
      refine .inl ⟨t ++ [w.p.Queue.getD i default], ?_, by rw [ht, zlw hi default], by trivial⟩
      simp only [zbn, Int.toNat_natCast]
      rw [Tr.run_true (by simpa using hi), Tr.run_guard ⟨by omega, by rw [zfz]; omega⟩, zab5 (by omega) (by omega), Tr.run_guard (by rfl), Tr.run_guard (by simp only [zfz, List.length_singleton]; omega), Tr.run_leaf, z5 (by omega)]
      rfl
  rw [zdr, zd4, Tr.run_guard (by rw [zcf]; omega), Tr.run_bind (zw3 (by omega)), Tr.run_bind (v := (w, default, w.p)) (by exact l1 default)]
  simp only []
  rw [Tr.run_bind (v := (w, default, w.p, w.p.Queue)) (by exact l2 default w.p), Tr.run_leaf]
theorem zab7 {w : Wld} {i : Int} (hf : (0 ≤ i ∧ i < 2) → FitC 140737488351232 (zc w.consumers i)) : zb6 i w = some (if 0 ≤ i ∧ i < 2 then zc w.consumers i else default, w) := by
  rw [zb6, zd5]
  by_cases hi : 0 ≤ i ∧ i < 2
  · have hf := hf hi
    have e1 := zw3 (l := w.consumers.Set.get i) (by have : (w.consumers.Set.get i).length * 16 ≤ _ := hf.set; omega)
    have e3 := z7y (l := (zc w.consumers i).Out) (by have := hf.said; omega) (by have := hf.due; omega)
    have hr : (w.consumers.Ripes.get i).length * 16 ≤ 140737488351232 := hf.ripes
    have hp : (w.consumers.Pending.get i).length * 80 ≤ 140737488351232 := hf.pend
    have l1 : ∀ z q, zed (w.consumers.Pending.get i) (w.consumers.Pending.get i).length 0 w z q [] = some (w, z, q, w.consumers.Pending.get i) := by
      intro z q
      have hps : ∀ p, p ∈ w.consumers.Pending.get i → p.Set.length * 16 ≤ 140737488351232 ∧ p.Done.length * 8 ≤ 140737488351232 := hf.ps
      generalize w.consumers.Pending.get i = l at *
      rw [zed]
      have := zox (F := fun s : (List Packet) × Int × Int × Wld × zb × zb × (List Packet) => (zbo s.1 s.2.1 s.2.2.1 s.2.2.2.1 s.2.2.2.2.1 s.2.2.2.2.2.1 s.2.2.2.2.2.2).run) l.length (fun i t => (l, (l.length : Int), (i : Int), w, z, q, t)) (fun i t => t = l.take i) (fun _ _ => (w, z, q, l)) ?_ ?_ 0 [] (Nat.zero_le _) rfl
      · exact this
      · rintro t rfl
        simp only [zbo]; rw [Tr.run_false (by simp), Tr.run_leaf, List.take_length]
      · rintro k t hk ht
        obtain ⟨p1, p2⟩ := hps _ (zhw (l := l) (k := k) hk default)
        have htl : t.length ≤ k := by rw [ht, List.length_take]; omega
        refine .inl ⟨t ++ [l.getD k default], ?_, by rw [ht, zlw hk default], by trivial⟩
        simp only [zbo, Int.toNat_natCast]
        rw [Tr.run_true (by simpa using hk), Tr.run_guard ⟨by omega, by rw [zgo]; omega⟩, Tr.run_bind (zab5 (by omega) (by omega)), Tr.run_guard (by simp only [zgo, List.length_singleton]; omega), Tr.run_leaf, z5 (by omega)]
    rw [if_pos hi, Tr.run_false (by simp; omega), Tr.run_guard hi, e1, e3, Tr.run_guard (by rfl), Tr.run_guard (by rfl), Tr.run_guard (by rw [zm6]; omega)]
    simp only [Option.getD_some]
    rw [Tr.run_bind (v := (w, default, zc w.consumers i, w.consumers.Pending.get i)) (by exact l1 default _), Tr.run_leaf]
    rfl
  · rw [if_neg hi, Tr.run_true (by simp; omega), Tr.run_leaf]
theorem zahm {w : Wld} (h : OkW w) {i : Int} (hi : 0 ≤ i ∧ i < 2) (b : Bool) : (zakq (zd8 w i b)).size ≤ 71 := by
  have hw := h.c i hi
  unfold zakq
  split
  · rename_i hg
    have hmem : (zd8 w i b).Said.getD (zd8 w i b).Got.toNat .empty ∈ (zd8 w i b).Said := by
      by_cases h0 : (zd8 w i b).Got.toNat < (zd8 w i b).Said.length
      · exact zhw h0 _
      · exact absurd hg (by
          cases b with
          | true => have : 0 ≤ (zc w.consumers i).Out.Got := (zdm hw.good).2.1.2.2.1
                    show ¬ (zc w.consumers i).Out.Got < _
                    have h0' : ¬ (zc w.consumers i).Out.Got.toNat < (zc w.consumers i).Out.Said.length := h0
                    show ¬ (zc w.consumers i).Out.Got < (((zc w.consumers i).Out.Said.length : Nat) : Int)
                    omega
          | false => have : 0 ≤ (zm w.p.Links i).Out.Got := (h.p.lk hi).line.2.2.1
                     have h0' : ¬ (zm w.p.Links i).Out.Got.toNat < (zm w.p.Links i).Out.Said.length := h0
                     show ¬ (zm w.p.Links i).Out.Got < (((zm w.p.Links i).Out.Said.length : Nat) : Int)
                     omega)
    generalize (zd8 w i b).Said.getD (zd8 w i b).Got.toNat .empty = s at hmem
    have : ∃ q, zez q = 0 ∧ s = txt (zsk q) := by
      cases b with
      | true => obtain ⟨q, q1, _, q2⟩ := hw.said s hmem; exact ⟨q, q1, q2⟩
      | false => obtain ⟨q, q1, _, q2⟩ := hw.told s hmem; exact ⟨q, q1, q2⟩
    obtain ⟨q, q1, rfl⟩ := this
    have := z5t q1
    rw [z00, zzb]; omega
  · decide
theorem zakx {n : Nat} (h : n ≤ 1000) : zez (zakp n) = 0 := by
  have hw : IntKind.i64.wrap (1 + (n : Int)) = 1 + n := zj (by omega) (by omega)
  unfold zez zakp
  rw [hw]
  simp only []
  rw [if_neg (by omega), if_neg (by omega), if_neg (by simp), if_neg (by simp [zy]), if_neg (by simp [zan])]
theorem zar3 {w : Wld} (h : OkW w) {i : Int} (hi : 0 ≤ i ∧ i < 2) (b f : Bool) : zos (zd8 w i b) f = some (zk6 (zd8 w i b) f) ∧ (zk6 (zd8 w i b) f).size ≤ 71 := by
  have hz := zahm h hi b
  have hg0 : 0 ≤ (zd8 w i b).Got := by
    cases b with
    | true => exact (zdm (h.c i hi).good).2.1.2.2.1
    | false => exact (h.p.lk hi).line.2.2.1
  have hE : ∀ n : Nat, zbl (⟨3, 1, 0, IntKind.i64.wrap (1 + (n : Int)), [], []⟩ : Packet) = some (zhc (zakp n)) := fun n => z5a (by simp) (by simp)
  generalize zd8 w i b = l at *
  have hsz : (zk6 l f).size ≤ 71 := by
    unfold zk6
    cases f with
    | true => rw [if_pos rfl, zm7 (zakx (by omega)), z00, zzb]; simp [zakp]
    | false => rw [if_neg (by simp)]; exact hz
  refine ⟨?_, hsz⟩
  rw [zos, zq2]
  unfold zk6
  unfold zakq at hz ⊢
  by_cases hl : l.Got < ((l.Said.length : Nat) : Int)
  · rw [if_pos hl, Tr.run_true (by simpa using hl), Tr.run_guard ⟨hg0, by show l.Got < ((l.Said.length : Nat) : Int); exact hl⟩]
    cases f with
    | true => rw [Tr.run_false (by rfl), if_pos rfl, Tr.run_bind (hE _), Tr.run_leaf]
    | false => rw [Tr.run_true (by rfl), if_neg (by simp), Tr.run_leaf]
  · rw [if_neg hl, Tr.run_false (by simpa using hl)]
    cases f with
    | true => rw [Tr.run_false (by rfl), if_pos rfl, Tr.run_bind (hE _), Tr.run_leaf]
    | false => rw [Tr.run_true (by rfl), if_neg (by simp), Tr.run_leaf]
theorem zahn {w : Wld} (hf : FitPr 140737488351232 w.p) : zgp w = some ((zjd w).2, (zjd w).1) := by
  rw [zgp, zeq, zag5 hf, Tr.run_guard (by rfl)]
  simp only [Option.getD_some]
  unfold zjd
  by_cases h0 : (zli w.p w.clock).2.2 = 0
  · rw [Tr.run_false (by simpa using h0), if_neg (by simpa using h0)]
    have turn : ∀ (c : Nat), c < 2 → ∀ (u : Wld) l z (p : za), (zbb l (c : Int) u z p).run = some (.inl (l, ((c + 1 : Nat) : Int), { u with heads := { u.heads with PHeight := u.heads.PHeight.set c p.Height, PTime := u.heads.PTime.set c p.Time, PSaid := u.heads.PSaid.set c (((p.Links.Said.get c).length : Nat) : Int), PGot := u.heads.PGot.set c (u.consumers.Got.get c) } }, z, p)) := by
      intro c hc u l z p
      simp only [zbb]
      rw [Tr.run_true (by simp; omega), Tr.run_guard ⟨by omega, by omega⟩, Tr.run_guard ⟨by omega, by omega⟩, Tr.run_guard ⟨by omega, by omega⟩, Tr.run_guard ⟨by omega, by omega⟩, Tr.run_leaf, z5 (by omega)]
    have loop : ∀ l z, zey l 0 { w with p := (zli w.p w.clock).1 } z (zli w.p w.clock).1 = some (l, { w with p := (zli w.p w.clock).1, heads := zako w.heads (zli w.p w.clock).1 w.consumers }, z) := by
      intro l z
      generalize (zli w.p w.clock).1 = p
      rw [zey, zb7 (turn 0 (by omega) _ _ _ _), zb7 (turn 1 (by omega) _ _ _ _), zgk (by
        show (zbb _ 2 _ _ _).run = _
        simp only [zbb]
        rw [Tr.run_false (by simp), Tr.run_leaf])]
      rfl
    rw [Tr.run_bind (v := ((zli w.p w.clock).2.1, { w with p := (zli w.p w.clock).1, heads := zako w.heads (zli w.p w.clock).1 w.consumers }, ⟨0, 0⟩)) (by exact loop _ _), Tr.run_leaf]
  · rw [Tr.run_true (by simpa using h0), if_pos h0, Tr.run_leaf]; rfl
theorem zad6 {C : zcs} {i : Int} (hi : 0 ≤ i ∧ i < 2) (l : ze0) : ({ C with Said := C.Said.set i l.Said, Due := C.Due.set i l.Due, Got := C.Got.set i l.Got, Closed := C.Closed.set i l.Closed } : zcs) = zpy C i { zc C i with Out := l } := by
  unfold zpy zc
  simp only [zpw _ hi]
theorem zaho {w : Wld} (h : OkW w) {d : Deed} (hi : 0 ≤ d.C ∧ d.C < 2) : zgq d w = some ((zq7 w d).2, (zq7 w d).1) := by
  rw [zgq, zer, Tr.run_guard hi, Tr.run_guard hi]
  obtain ⟨t1, t2⟩ := zar3 h hi d.Back d.Forged
  unfold zq7 znn
  cases hb : d.Back with
  | true =>
    rw [hb] at t1 t2
    have e0 : (zc w.consumers d.C).Out = zd8 w d.C true := rfl
    have e1 : w.consumers.Got.get d.C = (zd8 w d.C true).Got := rfl
    rw [Tr.run_true rfl, e0, Tr.run_bind t1, e1, z7e, Tr.run_guard (by rfl)]
    simp only [Option.getD_some]
    have es : z90 w d.C true = w.p.Links.SSaid.get d.C := rfl
    rw [← es]
    by_cases h0 : (zot (zd8 w d.C true) (IntKind.i64.wrap ((zd8 w d.C true).Got + 1)) (zk6 (zd8 w d.C true) d.Forged) (z90 w d.C true) w.clock).2 = 0
    · rw [Tr.run_false (by simpa using h0), if_neg (by simpa using h0), Tr.run_true rfl, if_pos trivial, zady h.fit (by omega), Tr.run_guard (by rfl)]
      simp only [Option.getD_some]
      by_cases h1 : (znz w.p d.C (zk6 (zd8 w d.C true) d.Forged).data.toList).2 = 0
      · rw [Tr.run_false (by simpa using h1), if_neg (by simpa using h1), Tr.run_leaf, zad6 hi]
      · rw [Tr.run_true (by simpa using h1), if_pos h1, Tr.run_leaf]; rfl
    · rw [Tr.run_true (by simpa using h0), if_pos h0, Tr.run_leaf]; rfl
  | false =>
    rw [hb] at t1 t2
    have e0 : (zm w.p.Links d.C).Out = zd8 w d.C false := rfl
    have e1 : w.p.Links.Got.get d.C = (zd8 w d.C false).Got := rfl
    rw [Tr.run_false rfl, e0, Tr.run_bind t1, e1, z7e, Tr.run_guard (by rfl)]
    simp only [Option.getD_some]
    have es : z90 w d.C false = w.consumers.SSaid.get d.C := rfl
    rw [← es]
    by_cases h0 : (zot (zd8 w d.C false) (IntKind.i64.wrap ((zd8 w d.C false).Got + 1)) (zk6 (zd8 w d.C false) d.Forged) (z90 w d.C false) w.clock).2 = 0
    · rw [Tr.run_false (by simpa using h0), if_neg (by simpa using h0), Tr.run_false rfl, if_neg (by simp), Tr.run_bind (zars ((h.c d.C hi).fit h.d1) (by omega))]
      by_cases h1 : (zwd (zc w.consumers d.C) (zk6 (zd8 w d.C false) d.Forged).data.toList).2 = 0
      · rw [Tr.run_false (by simpa using h1), if_neg (by simpa using h1), Tr.run_leaf]; rfl
      · rw [Tr.run_true (by simpa using h1), if_pos h1, Tr.run_leaf]; rfl
    · rw [Tr.run_true (by simpa using h0), if_pos h0, Tr.run_leaf]; rfl
theorem zaky {w : Wld} (h : OkW w) {d : Deed} (hi : 0 ≤ d.C ∧ d.C < 2) : zha d w = some ((zwg w d).2, (zwg w d).1) := by
  rw [zha, ze6, Tr.run_guard hi, Tr.run_guard hi]
  have hr := z9x h.fit (c := d.C)
  unfold zwg z91
  cases hb : d.Back with
  | true =>
    rw [Tr.run_true rfl, if_pos rfl, Tr.run_bind (zaa5 _ _ _ _)]
    by_cases h0 : (z1p (zc w.consumers d.C).Out d.N (w.consumers.STime.get d.C) (w.consumers.SGot.get d.C)).2 = 0
    · rw [Tr.run_false (by simpa using h0), if_neg (by simpa using h0), hr, Tr.run_guard (by rfl), Tr.run_bind zabo, Tr.run_leaf]; rfl
    · rw [Tr.run_true (by simpa using h0), if_pos h0, Tr.run_leaf]; rfl
  | false =>
    rw [Tr.run_false rfl, if_neg (show ¬ (false = true) by simp), Tr.run_bind (zaa5 _ _ _ _)]
    by_cases h0 : (z1p (zm w.p.Links d.C).Out d.N (w.p.Links.STime.get d.C) (w.p.Links.SGot.get d.C)).2 = 0
    · rw [Tr.run_false (by simpa using h0), if_neg (by simpa using h0), hr, Tr.run_guard (by rfl), Tr.run_bind zabo, Tr.run_leaf]; rfl
    · rw [Tr.run_true (by simpa using h0), if_pos h0, Tr.run_leaf]; rfl
end Go.Proofs.YtmakmlnfbdablaaGreat.Ab
namespace Go.Proofs.YtmakmlnfbdablaaGreat.Ab
open Go Go.RowKit
set_option linter.unusedVariables false
set_option linter.unusedSimpArgs false
theorem zahp {w : Wld} (h : OkW w) {d : Deed} : zgr d w = some ((zq8 w d).2, (zq8 w d).1) := by
  rw [zgr, zes]
  unfold zq8
  by_cases c1 : d.Kind < 4 ∨ 12 < d.Kind
  · rw [if_pos c1, Tr.run_true (by simpa using c1), Tr.run_leaf]; rfl
  rw [if_neg c1, Tr.run_false (by simp; omega)]
  by_cases c2 : d.C < 0 ∨ 2 ≤ d.C
  · rw [if_pos c2, Tr.run_true (by simpa using c2), Tr.run_leaf]; rfl
  have hi : 0 ≤ d.C ∧ d.C < 2 := by omega
  have hw := h.c d.C hi
  have hfc := hw.fit h.d1
  rw [if_neg c2, Tr.run_false (by simp; omega), Tr.run_guard hi]
  by_cases c3 : d.Kind ≠ 4 ∧ w.consumers.On.get d.C = false
  · rw [if_pos c3, Tr.run_true (by simpa using c3), Tr.run_leaf]; rfl
  rw [if_neg c3, Tr.run_false (by
    rw [Bool.eq_false_iff]; intro k; apply c3; simpa using k)]
  by_cases c4 : d.Kind = 4
  · rw [if_pos c4, Tr.run_true (by simpa using c4), zabw h.fit, Tr.run_guard (by rfl)]
    simp only [Option.getD_some]
    unfold z2y
    by_cases h0 : (zef w.p d.C).2 = 0
    · obtain ⟨f1, _, f3, f4, f5, f6, f7⟩ := zzh h0
      have hs : (zef w.p d.C).1.Set.length * 16 ≤ 140737488355328 := by rw [f7]; have := h.fit.set; show w.p.Set.length * 16 ≤ _; omega
      rw [Tr.run_false (by simpa using h0), if_neg (by simpa using h0), zam5 hs, Tr.run_guard (by rfl), Tr.run_guard hi, Tr.run_leaf]
      rfl
    · rw [Tr.run_true (by simpa using h0), if_pos h0, Tr.run_leaf]; rfl
  rw [if_neg c4, Tr.run_false (by simpa using c4)]
  have hsz := hw.size; have hd1 := h.d1
  by_cases c7 : d.Kind = 7
  · have he : zx (zc w.consumers d.C) w.clock = some (z9s w.clock (zc w.consumers d.C)) := zawi hfc (by omega)
    rw [if_pos c7, Tr.run_true (by simpa using c7), he, Tr.run_guard (by rfl)]
    simp only [Option.getD_some]
    unfold zw2
    by_cases h0 : (z9s w.clock (zc w.consumers d.C)).2 = 0
    · rw [Tr.run_true (by simpa using h0), Tr.run_guard hi, Tr.run_guard hi, Tr.run_guard (by omega), Tr.run_false (by simpa using h0), if_neg (by simpa using h0), Tr.run_leaf]; rfl
    · rw [Tr.run_false (by simpa using h0), Tr.run_true (by simpa using h0), if_pos h0, Tr.run_leaf]; rfl
  rw [if_neg c7, Tr.run_false (by simpa using c7)]
  by_cases c8 : d.Kind = 8
  · rw [if_pos c8, Tr.run_true (by simpa using c8)]
    unfold z7t
    cases hb : d.Back with
    | true =>
      rw [Tr.run_true rfl, if_pos rfl, Tr.run_guard hi, Tr.run_guard (by omega), Tr.run_guard hi, Tr.run_false rfl, Tr.run_leaf, zab1 hi]; rfl
    | false =>
      rw [Tr.run_false rfl, if_neg (show ¬ (false = true) by simp), Tr.run_guard hi, Tr.run_guard (by omega), Tr.run_false rfl, Tr.run_leaf]; rfl
  rw [if_neg c8, Tr.run_false (by simpa using c8)]
  by_cases c9 : d.Kind = 9
  · rw [if_pos c9, Tr.run_true (by simpa using c9), Tr.run_bind (zaho h hi), Tr.run_leaf]
  rw [if_neg c9, Tr.run_false (by simpa using c9)]
  by_cases c10 : d.Kind = 10
  · rw [if_pos c10, Tr.run_true (by simpa using c10), Tr.run_bind (zaky h hi), Tr.run_leaf]
  rw [if_neg c10, Tr.run_false (by simpa using c10)]
  by_cases c11 : d.Kind = 11
  · rw [if_pos c11, Tr.run_true (by simpa using c11), zart hfc, Tr.run_guard (by rfl)]
    simp only [Option.getD_some]
    unfold putW
    by_cases h0 : (z5n (zc w.consumers d.C) d.V w.clock).2 = 0
    · rw [Tr.run_false (by simpa using h0), if_neg (by simpa using h0), Tr.run_leaf]
    · rw [Tr.run_true (by simpa using h0), if_pos h0, Tr.run_leaf]; rfl
  rw [if_neg c11, Tr.run_false (by simpa using c11)]
  by_cases c12 : d.Kind = 12
  · rw [if_pos c12, Tr.run_true (by simpa using c12), zaj6 hfc, Tr.run_guard (by rfl)]
    simp only [Option.getD_some]
    unfold putW
    by_cases h0 : (zrl (zc w.consumers d.C) d.V d.N w.clock).2 = 0
    · rw [Tr.run_false (by simpa using h0), if_neg (by simpa using h0), Tr.run_leaf]
    · rw [Tr.run_true (by simpa using h0), if_pos h0, Tr.run_leaf]; rfl
  rw [if_neg c12, Tr.run_false (by simpa using c12), Tr.run_false rfl, Tr.run_leaf, zab1 hi]
theorem zakz {w : Wld} (h : OkW w) {d : Deed} (hn : d.N ≤ 9223372036854775807) : zcm d w = some ((doW w d).2, (doW w d).1) := by
  rw [zcm, zjc]
  unfold doW
  by_cases c0 : 600 ≤ w.deeds
  · rw [if_pos c0, Tr.run_true (by simpa using c0), Tr.run_leaf]; rfl
  have hd : w.deeds < 600 := by omega
  have hd0 := h.d0
  have hw : IntKind.i64.wrap (w.deeds + 1) = w.deeds + 1 := zj (by omega) (by omega)
  have hm := zk7 h hd
  rw [if_neg c0, Tr.run_false (by simpa using c0), hw]
  have e0 : ({ w with deeds := w.deeds + 1 } : Wld) = zay w := rfl
  unfold actW
  by_cases c1 : d.Kind = 1
  · rw [if_pos c1, Tr.run_true (by simpa using c1), Tr.run_bind (z5p h.fit hn)]
    unfold zrm
    by_cases h0 : (zdj w.p d.D d.V d.N).2 = 0
    · rw [Tr.run_false (by simpa using h0), if_neg (by show ¬ (zdj w.p d.D d.V d.N).2 ≠ 0; simpa using h0), Tr.run_leaf]; rfl
    · rw [Tr.run_true (by simpa using h0), if_pos (by exact h0), Tr.run_leaf]; rfl
  rw [if_neg c1, Tr.run_false (by simpa using c1)]
  by_cases c2 : d.Kind = 2
  · rw [if_pos c2, Tr.run_true (by simpa using c2), z1w h.fit hn, Tr.run_guard (by rfl)]
    simp only [Option.getD_some]
    unfold zrm
    by_cases h0 : (zda w.p d.D d.V d.N w.clock).2 = 0
    · rw [Tr.run_false (by simpa using h0), if_neg (by show ¬ (zda w.p d.D d.V d.N w.clock).2 ≠ 0; simpa using h0), Tr.run_leaf]; rfl
    · rw [Tr.run_true (by simpa using h0), if_pos (by exact h0), Tr.run_leaf]; rfl
  rw [if_neg c2, Tr.run_false (by simpa using c2)]
  by_cases c3 : d.Kind = 3
  · rw [if_pos c3, Tr.run_true (by simpa using c3), Tr.run_bind zajs]
    unfold zrm
    by_cases h0 : (zaw w.p.Stake d.V 1).2 = 0
    · rw [Tr.run_false (by simpa using h0), if_neg (by show ¬ (zaw w.p.Stake d.V 1).2 ≠ 0; simpa using h0), Tr.run_leaf]; rfl
    · rw [Tr.run_true (by simpa using h0), if_pos (by exact h0), Tr.run_leaf]; rfl
  rw [if_neg c3, Tr.run_false (by simpa using c3)]
  by_cases c13 : d.Kind = 13
  · rw [if_pos c13, Tr.run_true (by simpa using c13), Tr.run_bind (z5s h.fit)]
    unfold zrm
    by_cases h0 : (zwf w.p d.V d.N).2 = 0
    · rw [Tr.run_false (by simpa using h0), if_neg (by show ¬ (zwf w.p d.V d.N).2 ≠ 0; simpa using h0), Tr.run_leaf]; rfl
    · rw [Tr.run_true (by simpa using h0), if_pos (by exact h0), Tr.run_leaf]; rfl
  rw [if_neg c13, Tr.run_false (by simpa using c13)]
  by_cases c5 : d.Kind = 5
  · rw [if_pos c5, Tr.run_true (by simpa using c5)]
    have t0 := h.t0; have t1 := h.t1
    have h1 : IntKind.i64.wrap (1099511627736 - w.clock) = 1099511627736 - w.clock := zj (by omega) (by omega)
    rw [h1]
    unfold zahd
    by_cases h0 : d.N < 1 ∨ 1099511627736 - w.clock < d.N
    · rw [Tr.run_true (by simpa using h0), if_pos (by exact h0), Tr.run_leaf]; rfl
    · have h2 : IntKind.i64.wrap (w.clock + d.N) = w.clock + d.N := zj (by omega) (by omega)
      rw [Tr.run_false (by simp; omega), if_neg (by exact h0), Tr.run_leaf, h2]; rfl
  rw [if_neg c5, Tr.run_false (by simpa using c5)]
  by_cases c6 : d.Kind = 6
  · rw [if_pos c6, Tr.run_true (by simpa using c6), e0, Tr.run_bind (zahn hm.fit), Tr.run_leaf]
  rw [if_neg c6, Tr.run_false (by simpa using c6), e0, Tr.run_bind (zahp hm), Tr.run_leaf]
def stk7 : Stake := ⟨⟨⟨99300, 100000, 100000, 100000⟩, 700, 0, 0⟩, { zawf with Tokens := ⟨700, 0, 0, 0, 0, 0⟩, Shares := ⟨700, 0, 0, 0, 0, 0⟩ }, ⟨⟨700, 0, 0, 0, 0, 0⟩, ⟨0, 0, 0, 0, 0, 0⟩, ⟨0, 0, 0, 0, 0, 0⟩, ⟨0, 0, 0, 0, 0, 0⟩⟩, [], 1⟩
theorem zak0 : GoodS stk7 := by decide
theorem zab8 : zb8 newS 0 0 700 = (stk7, 0) := by
  have h : zfy newS 0 0 = 0 := by
    unfold zfy
    rw [if_neg (by simpa using zajz), if_neg (by omega)]
  unfold zb8
  rw [if_neg (by simpa using h), if_neg (by decide), if_neg (by omega), if_neg (by decide), if_neg (by decide), if_neg (by decide), if_neg (by decide)]
  rfl
theorem zak1 : setS stk7 = [⟨0, 7⟩] := by rfl
def p7 : za := { zabr with Stake := stk7 }
def p8 : za := ⟨1, 5, stk7, [⟨0, 7⟩], default, z9t (newM 0 0) (allP []) 5, []⟩
theorem zar4 : zal p7 = true := by decide
theorem zar5 : zal p8 = true := by decide
theorem zad7 : zdj zabr 0 0 700 = (p7, 0) := by
  unfold zdj
  rw [if_pos z7q]
  show (if (zb8 newS 0 0 700).2 ≠ 0 then _ else (({ zabr with Stake := (zb8 newS 0 0 700).1 } : za), (0 : Int))) = _
  rw [zab8]; rfl
theorem zaws : zli p7 5 = (p8, [], 0) := by
  have hpay : z6r stk7 5 = (stk7, [], 0) := by unfold z6r; rw [if_neg (by simpa using zak0)]; rfl
  unfold zli
  rw [if_pos ⟨zar4, by decide, by decide⟩]
  have hp : znm p7 5 = p8 := by
    unfold znm
    show ({ znb p7 5 with Stake := (z6r stk7 5).1, Set := setS (z6r stk7 5).1, Queue := [] } : za) = _
    rw [hpay, zak1]; rfl
  rw [hp, zafq (p := p8) (c := 0) rfl, zafq (p := p8) (c := 1) rfl]
  show (p8, (z6r stk7 5).2.1, (0 : Int)) = _
  rw [hpay]
def w1 : Wld := ⟨0, p7, default, default, 1⟩
def w2 : Wld := ⟨5, p7, default, default, 2⟩
def w3 : Wld := ⟨5, p8, default, zako default p8 default, 3⟩
theorem do_1 : doW newW ⟨1, 0, 0, 0, 700, false, false⟩ = (w1, ⟨0, 0⟩) := by
  show zrm (zay newW) (zdj zabr 0 0 700) = _
  rw [zad7]; rfl
theorem do_2 : doW w1 ⟨5, 0, 0, 0, 5, false, false⟩ = (w2, ⟨0, 5⟩) := by rfl
theorem do_3 : doW w2 ⟨6, 0, 0, 0, 0, false, false⟩ = (w3, ⟨0, 0⟩) := by
  show zjd (zay w2) = _
  unfold zjd
  have e : zli (zay w2).p (zay w2).clock = (p8, [], 0) := zaws
  rw [e]; rfl
theorem do_4 : (doW w3 ⟨4, 0, 0, 0, 0, false, false⟩).2.N = 1 ∧ (doW w3 ⟨4, 0, 0, 0, 0, false, false⟩).1.clock = 5 ∧ (zc (doW w3 ⟨4, 0, 0, 0, 0, false, false⟩).1.consumers 0).Set = [⟨0, 7⟩] := by
  have hb : zef p8 0 = (zn0 p8 0 (p8.Stake.Waits.map (zi3 0 p8.Height)) (zzf p8), 0) := by
    unfold zef
    rw [if_neg (by rw [zar5]; simp), if_pos (by omega), if_neg (by decide), if_neg (by decide), if_neg (by decide)]
  have e : doW w3 ⟨4, 0, 0, 0, 0, false, false⟩ = z2y (zay w3) 0 := rfl
  rw [e]
  unfold z2y
  have e2 : zef (zay w3).p 0 = (zn0 p8 0 (p8.Stake.Waits.map (zi3 0 p8.Height)) (zzf p8), 0) := hb
  rw [e2]
  exact ⟨rfl, rfl, rfl⟩
theorem okW1 : OkW w1 := by have := z7x zad0 ⟨1, 0, 0, 0, 700, false, false⟩; rw [do_1] at this; exact this
theorem okW2 : OkW w2 := by have := z7x okW1 ⟨5, 0, 0, 0, 5, false, false⟩; rw [do_2] at this; exact this
theorem okW3 : OkW w3 := by have := z7x okW2 ⟨6, 0, 0, 0, 0, false, false⟩; rw [do_3] at this; exact this
theorem okW4 : OkW (doW w3 ⟨4, 0, 0, 0, 0, false, false⟩).1 := z7x okW3 _
end Go.Proofs.YtmakmlnfbdablaaGreat.Ab
namespace Go.Proofs.YtmakmlnfbdablaaGreat.Ab
open Go Go.RowKit
set_option linter.unusedVariables false
set_option linter.unusedSimpArgs false
structure Alike (w w' : Wld) : Prop where
  p : w'.p = w.p
  c : w'.consumers = w.consumers
  t : w'.clock = w.clock
theorem Alike.refl (w : Wld) : Alike w w := ⟨rfl, rfl, rfl⟩
theorem Alike.more (w : Wld) : Alike w (zay w) := ⟨rfl, rfl, rfl⟩
def zak2 (w : Wld) (s : Stake) : Wld := { zay w with p := { w.p with Stake := s } }
def zawt (w : Wld) (s : Stake) : Wld := { zay w with p := { w.p with Stake := s, Links := zabs w.p.Links } }
def za5p (w : Wld) (n : Int) : Wld := { zay w with clock := w.clock + n }
def zfs (w : Wld) : Wld := { zay w with p := (zli w.p w.clock).1, heads := zako w.heads (zli w.p w.clock).1 w.consumers }
def za5q (w : Wld) (i : Int) : Wld := { zay w with p := zn0 w.p i (w.p.Stake.Waits.map (zi3 i w.p.Height)) (zzf w.p), consumers := zpy w.consumers i (zsq w.p.Set w.p.Height w.clock), heads := zaos w.heads i }
def zahq (w : Wld) (i : Int) (c : zb) : Wld := { zay w with consumers := zpy w.consumers i c }
def za5r (w : Wld) (i : Int) : Wld := { zay w with p := { w.p with Links := z9z w.p.Links i (zawq w.heads i) } }
def za5s (w : Wld) (i : Int) : Wld := { zahq w i (z9s w.clock (zc w.consumers i)).1 with heads := zawo w.heads i (z9s w.clock (zc w.consumers i)).1 (w.p.Links.Got.get i) }
def gotB (w : Wld) (i : Int) (q : Packet) : Wld := { zahq w i { zc w.consumers i with Out := { (zc w.consumers i).Out with Got := (zc w.consumers i).Out.Got + 1 } } with p := { w.p with Queue := w.p.Queue ++ [⟨i, q⟩] } }
def gotF (w : Wld) (i : Int) (q : Packet) : Wld := { zahq w i { zc w.consumers i with Pending := (zc w.consumers i).Pending ++ [q] } with p := { w.p with Links := z2x w.p.Links i { (zm w.p.Links i).Out with Got := (zm w.p.Links i).Out.Got + 1 } } }
def za5t (w : Wld) (i : Int) : Wld := { zahq w i { zc w.consumers i with On := false, Gone := true, Out := { (zc w.consumers i).Out with Closed := true } } with p := ztw w.p i }
def za5u (w : Wld) (i : Int) (q : Packet) (f : A6 Bool) : zb := { zc w.consumers i with Out := { (zc w.consumers i).Out with Said := (zc w.consumers i).Out.Said ++ [txt (zsk q)], Due := (zc w.consumers i).Out.Due ++ [w.clock + 40] }, Flags := f }
structure zar6 (w : Wld) (i : Int) (b : Bool) (q : Packet) : Prop where
  good : zet (zd8 w i b)
  opened : (zd8 w i b).Closed = false
  got : (zd8 w i b).Got.toNat < (zd8 w i b).Said.length
  seen : (zd8 w i b).Got + 1 ≤ z90 w i b
  text : (zd8 w i b).Said.getD (zd8 w i b).Got.toNat .empty = txt (zsk q)
  time : w.clock < (zd8 w i b).Due.getD (zd8 w i b).Got.toNat 0
  pk : zez q = 0
theorem zanq {w : Wld} (h : OkW w) (hd : w.deeds < 600) (d : Deed) {P : Wld → Reply → Prop}
    (hno : ∀ w' r, Alike w w' → r.Code ≠ 0 → P w' r)
    (hdel : d.Kind = 1 → (zb8 w.p.Stake d.D d.V d.N).2 = 0 → P (zak2 w (zb8 w.p.Stake d.D d.V d.N).1) ⟨0, 0⟩)
    (hund : d.Kind = 2 → (zbh w.p.Stake d.D d.V d.N (z5q w.p w.clock)).2 = 0 → P (zawt w (zbh w.p.Stake d.D d.V d.N (z5q w.p w.clock)).1) ⟨0, 0⟩)
    (hunj : d.Kind = 3 → (zaw w.p.Stake d.V 1).2 = 0 → P (zak2 w (zaw w.p.Stake d.V 1).1) ⟨0, 0⟩)
    (hevi : d.Kind = 13 → (0 ≤ d.V ∧ d.V < 6) → (1 ≤ d.N ∧ d.N ≤ w.p.Height) → w.p.Stake.Validators.Dead.get d.V = false → P (zak2 w (zaw (zdi w.p.Stake d.V d.N 50).1 d.V 2).1) ⟨0, 0⟩)
    (htick : d.Kind = 5 → 1 ≤ d.N → d.N ≤ 1099511627736 - w.clock → P (za5p w d.N) ⟨0, w.clock + d.N⟩)
    (hprov : d.Kind = 6 → P (zfs w) ⟨0, (((zli w.p w.clock).2.1.length : Nat) : Int)⟩)
    (hbeg : d.Kind = 4 → (0 ≤ d.C ∧ d.C < 2) → w.p.Links.Gone.get d.C = false → w.p.Links.On.get d.C = false → 1 ≤ w.p.Height → w.p.Set.length ≠ 0 → P (za5q w d.C) ⟨0, w.p.Height⟩)
    (hcons : d.Kind = 7 → (0 ≤ d.C ∧ d.C < 2) → (zc w.consumers d.C).On = true → P (za5s w d.C) ⟨0, 0⟩)
    (hseen : d.Kind = 8 → (0 ≤ d.C ∧ d.C < 2) → (zc w.consumers d.C).On = true → d.Back = true → P (za5r w d.C) ⟨0, 0⟩)
    (hsee : d.Kind = 8 → (0 ≤ d.C ∧ d.C < 2) → (zc w.consumers d.C).On = true → d.Back = false → P (zahq w d.C { zc w.consumers d.C with Seen := zawp w.heads d.C }) ⟨0, 0⟩)
    (hback : ∀ q, d.Kind = 9 → (0 ≤ d.C ∧ d.C < 2) → (zc w.consumers d.C).On = true → d.Back = true → zar6 w d.C true q → q.Kind ≠ 1 → P (gotB w d.C q) ⟨0, (zc w.consumers d.C).Out.Got + 1⟩)
    (hforth : ∀ q, d.Kind = 9 → (0 ≤ d.C ∧ d.C < 2) → (zc w.consumers d.C).On = true → d.Back = false → zar6 w d.C false q → q.Kind = 1 → P (gotF w d.C q) ⟨0, (zm w.p.Links d.C).Out.Got + 1⟩)
    (hlate : d.Kind = 10 → (0 ≤ d.C ∧ d.C < 2) → (zc w.consumers d.C).On = true → (z91 w d).2 = 0 → P (za5t w d.C) ⟨0, 0⟩)
    (hsay : ∀ q f, (d.Kind = 11 ∨ d.Kind = 12) → (0 ≤ d.C ∧ d.C < 2) → (zc w.consumers d.C).On = true → zez q = 0 → (q.Kind = 3 ∧ q.Id = (zc w.consumers d.C).Id ∨ q.Kind = 4 ∧ q.Id ≤ (zc w.consumers d.C).Id) → (zc w.consumers d.C).Out.Closed = false → (zc w.consumers d.C).Out.Said.length < 400 → P (zahq w d.C (za5u w d.C q f)) ⟨0, 0⟩) :
    P (doW w d).1 (doW w d).2 := by
  have hm := zk7 h hd
  have no : ∀ e : Int, e ≠ 0 → P (noW (zay w) e).1 (noW (zay w) e).2 := fun e he => hno _ _ (.more w) he
  unfold doW
  rw [if_neg (by omega)]
  unfold actW
  by_cases c1 : d.Kind = 1
  · rw [if_pos c1]
    unfold zrm
    have e : zdj (zay w).p d.D d.V d.N = zdj w.p d.D d.V d.N := rfl
    by_cases h0 : (zdj w.p d.D d.V d.N).2 = 0
    · rw [e, if_neg (by simpa using h0)]
      unfold zdj at h0 ⊢
      rw [if_pos h.pr] at h0 ⊢
      by_cases h1 : (zb8 w.p.Stake d.D d.V d.N).2 = 0
      · rw [if_neg (by simpa using h1)]; exact hdel c1 h1
      · rw [if_pos h1] at h0; exact absurd h0 h1
    · rw [e, if_pos h0]; exact no _ h0
  rw [if_neg c1]
  by_cases c2 : d.Kind = 2
  · rw [if_pos c2]
    unfold zrm
    have e : zda (zay w).p d.D d.V d.N (zay w).clock = zda w.p d.D d.V d.N w.clock := rfl
    by_cases h0 : (zda w.p d.D d.V d.N w.clock).2 = 0
    · rw [e, if_neg (by simpa using h0)]
      unfold zda at h0 ⊢
      have ht : zal w.p = true ∧ 0 ≤ w.clock ∧ w.clock ≤ 1099511627776 := ⟨h.pr, h.t0, by have := h.t1; omega⟩
      rw [if_pos ht] at h0 ⊢
      by_cases h1 : (zbh w.p.Stake d.D d.V d.N (z5q w.p w.clock)).2 = 0
      · rw [if_neg (by simpa using h1)]; exact hund c2 h1
      · rw [if_pos h1] at h0; exact absurd h0 h1
    · rw [e, if_pos h0]; exact no _ h0
  rw [if_neg c2]
  by_cases c3 : d.Kind = 3
  · rw [if_pos c3]
    unfold zrm
    by_cases h0 : (zaw w.p.Stake d.V 1).2 = 0
    · rw [if_neg (by show ¬ (zaw w.p.Stake d.V 1).2 ≠ 0; simpa using h0)]; exact hunj c3 h0
    · rw [if_pos (by exact h0)]; exact no _ h0
  rw [if_neg c3]
  by_cases c13 : d.Kind = 13
  · rw [if_pos c13]
    unfold zrm
    have e : zwf (zay w).p d.V d.N = zwf w.p d.V d.N := rfl
    by_cases h0 : (zwf w.p d.V d.N).2 = 0
    · rw [e, if_neg (by simpa using h0)]
      unfold zwf at h0 ⊢
      rw [if_neg (by rw [h.pr]; simp)] at h0 ⊢
      by_cases h1 : 0 ≤ d.V ∧ d.V < 6
      · rw [if_pos h1] at h0 ⊢
        by_cases h2 : 1 ≤ d.N ∧ d.N ≤ w.p.Height
        · rw [if_pos h2] at h0 ⊢
          by_cases h3 : w.p.Stake.Validators.Dead.get d.V = true
          · rw [if_pos h3] at h0; cases h0
          · rw [if_neg h3]; exact hevi c13 h1 h2 (Bool.eq_false_iff.2 h3)
        · rw [if_neg h2] at h0; cases h0
      · rw [if_neg h1] at h0; cases h0
    · rw [e, if_pos h0]; exact no _ h0
  rw [if_neg c13]
  by_cases c5 : d.Kind = 5
  · rw [if_pos c5]
    unfold zahd
    by_cases h0 : d.N < 1 ∨ 1099511627736 - w.clock < d.N
    · rw [if_pos (by exact h0)]; exact no _ (by omega)
    · rw [if_neg (by exact h0)]; exact htick c5 (by omega) (by omega)
  rw [if_neg c5]
  by_cases c6 : d.Kind = 6
  · rw [if_pos c6]
    have ht : zal w.p = true ∧ w.p.Time ≤ w.clock ∧ w.clock ≤ 1099511627776 := ⟨h.pr, h.pt, by have := h.t1; omega⟩
    unfold zjd
    rw [if_neg (by show ¬ (zli w.p w.clock).2.2 ≠ 0; rw [z9y ht]; simp)]
    exact hprov c6
  rw [if_neg c6]
  unfold zq8
  by_cases b1 : d.Kind < 4 ∨ 12 < d.Kind
  · rw [if_pos b1]; exact no _ (by omega)
  rw [if_neg b1]
  by_cases b2 : d.C < 0 ∨ 2 ≤ d.C
  · rw [if_pos b2]; exact no _ (by omega)
  rw [if_neg b2]
  have hi : 0 ≤ d.C ∧ d.C < 2 := by omega
  by_cases b3 : d.Kind ≠ 4 ∧ (zay w).consumers.On.get d.C = false
  · rw [if_pos b3]; exact no _ (by omega)
  rw [if_neg b3]
  by_cases b4 : d.Kind = 4
  · rw [if_pos b4]
    unfold z2y
    have e : zef (zay w).p d.C = zef w.p d.C := rfl
    rw [e]
    by_cases h0 : (zef w.p d.C).2 = 0
    · obtain ⟨f1, _, f3, f4, f5, f6, f7⟩ := zzh h0
      rw [if_neg (by simpa using h0), f7]
      exact hbeg b4 hi f3 f4 f5 f6
    · rw [if_pos h0]; exact no _ h0
  rw [if_neg b4]
  have ho : (zc w.consumers d.C).On = true := by
    cases e : (zc w.consumers d.C).On with
    | true => rfl
    | false => exact absurd ⟨b4, e⟩ b3
  have hw := h.c d.C hi
  have hh := hw.height
  by_cases b7 : d.Kind = 7
  · rw [if_pos b7]
    obtain ⟨e0, -⟩ := z7v (now := w.clock) hw.good ho ⟨hw.time, by have := h.t1; omega⟩ (by omega)
    unfold zw2
    rw [if_neg (by show ¬ (z9s w.clock (zc w.consumers d.C)).2 ≠ 0; rw [e0]; simp)]
    exact hcons b7 hi ho
  rw [if_neg b7]
  by_cases b8 : d.Kind = 8
  · rw [if_pos b8]
    unfold z7t
    cases hb : d.Back with
    | true => rw [if_pos rfl]; exact hseen b8 hi ho hb
    | false => rw [if_neg (by simp)]; exact hsee b8 hi ho hb
  rw [if_neg b8]
  by_cases b9 : d.Kind = 9
  · rw [if_pos b9]
    unfold zq7
    have e1 : znn (zay w) d = znn w d := rfl
    rw [e1]
    by_cases h0 : (znn w d).2 = 0
    · obtain ⟨f1, f2, f3, f4, f5, f6, f7, f8⟩ := z7w h0
      rw [if_neg (by simpa using h0)]
      have hg0 : 0 ≤ (zd8 w d.C d.Back).Got := f1.2.2.1
      have hmem : ∃ q, zez q = 0 ∧ (zd8 w d.C d.Back).Said.getD (zd8 w d.C d.Back).Got.toNat .empty = txt (zsk q) := by
        have hm := zhw (l := (zd8 w d.C d.Back).Said) (k := (zd8 w d.C d.Back).Got.toNat) (by omega) .empty
        generalize (zd8 w d.C d.Back).Said.getD (zd8 w d.C d.Back).Got.toNat .empty = s at hm
        cases hb : d.Back with
        | true => rw [hb] at hm; obtain ⟨q, q1, _, q2⟩ := hw.said s hm; exact ⟨q, q1, q2⟩
        | false => rw [hb] at hm; obtain ⟨q, q1, _, q2⟩ := hw.told s hm; exact ⟨q, q1, q2⟩
      obtain ⟨q, q1, q2⟩ := hmem
      have ht : (zk6 (zd8 w d.C d.Back) d.Forged).data.toList = zsk q := by rw [f5, q2, z1q]
      have hcm : zar6 w d.C d.Back q := ⟨f1, f2, by omega, f4, q2, f6, q1⟩
      cases hb : d.Back with
      | true =>
        rw [hb] at ht hcm f7
        rw [if_pos rfl]
        have e2 : znz (zay w).p d.C (zk6 (zd8 (zay w) d.C true) d.Forged).data.toList = znz w.p d.C (zsk q) := by rw [← ht]; rfl
        rw [e2]
        by_cases h1 : (znz w.p d.C (zsk q)).2 = 0
        · obtain ⟨_, _, _, q4, _, q6, _⟩ := z2z h.pr h1
          rw [zajg q1] at q4 q6
          rw [if_neg (by simpa using h1), q6, f7]
          exact hback q b9 hi ho hb hcm q4
        · rw [if_pos h1]; exact no _ h1
      | false =>
        rw [hb] at ht hcm f7
        rw [if_neg (show ¬ (false = true) by simp)]
        have e2 : zwd (zc (zay w).consumers d.C) (zk6 (zd8 (zay w) d.C false) d.Forged).data.toList = zwd (zc w.consumers d.C) (zsk q) := by rw [← ht]; rfl
        rw [e2]
        by_cases h1 : (zwd (zc w.consumers d.C) (zsk q)).2 = 0
        · obtain ⟨_, _, q4, _, q6, _⟩ := z51 hw.good h1
          rw [zajg q1] at q4 q6
          rw [if_neg (by simpa using h1), q6, f7]
          exact hforth q b9 hi ho hb hcm q4
        · rw [if_pos h1]; exact no _ h1
    · rw [if_pos h0]; exact no _ h0
  rw [if_neg b9]
  by_cases b10 : d.Kind = 10
  · rw [if_pos b10]
    unfold zwg
    have e1 : z91 (zay w) d = z91 w d := rfl
    rw [e1]
    by_cases h0 : (z91 w d).2 = 0
    · obtain ⟨f1, f2⟩ := zab4 h hi ho
      have e2 : ztx (zay w).p d.C = ztw w.p d.C := f1
      have e3 : zzd (zc (zay w).consumers d.C) = { zc w.consumers d.C with On := false, Gone := true, Out := { (zc w.consumers d.C).Out with Closed := true } } := f2
      rw [if_neg (by simpa using h0), e2, e3]
      exact hlate b10 hi ho h0
    · rw [if_pos h0]; exact no _ h0
  rw [if_neg b10]
  have hw40 : IntKind.i64.wrap (w.clock + 40) = w.clock + 40 := zj (by have := h.t0; omega) (by have := h.t1; omega)
  by_cases b11 : d.Kind = 11
  · rw [if_pos b11]
    unfold putW
    have e1 : z5n (zc (zay w).consumers d.C) d.V (zay w).clock = z5n (zc w.consumers d.C) d.V w.clock := rfl
    rw [e1]
    by_cases h0 : (z5n (zc w.consumers d.C) d.V w.clock).2 = 0
    · obtain ⟨_, _, _, _, _, _, _, hs, he⟩ := zafi h0
      obtain ⟨s1, s2, s3, s4, s5, s6⟩ := z50 hw.good (by simp) hs
      rw [if_neg (by simpa using h0), he, s5, hw40]
      exact hsay _ _ (.inl b11) hi ho s1 (.inl ⟨rfl, rfl⟩) s3 s4
    · rw [if_pos h0]; exact no _ h0
  rw [if_neg b11]
  by_cases b12 : d.Kind = 12
  · rw [if_pos b12]
    unfold putW
    have e1 : zrl (zc (zay w).consumers d.C) d.V d.N (zay w).clock = zrl (zc w.consumers d.C) d.V d.N w.clock := rfl
    rw [e1]
    by_cases h0 : (zrl (zc w.consumers d.C) d.V d.N w.clock).2 = 0
    · rw [if_neg (by simpa using h0)]
      unfold zrl at h0 ⊢
      by_cases h1 : zj1 (zc w.consumers d.C) = false ∨ w.clock < 0 ∨ 1099511627776 < w.clock
      · rw [if_pos h1] at h0; cases h0
      rw [if_neg h1] at h0 ⊢
      by_cases h2 : (zc w.consumers d.C).On = false ∨ d.V < 0 ∨ 5 < d.V
      · rw [if_pos h2] at h0; cases h0
      rw [if_neg h2] at h0 ⊢
      by_cases h3 : d.N < 1 ∨ (zc w.consumers d.C).Id < d.N
      · rw [if_pos h3] at h0; cases h0
      rw [if_neg h3] at h0 ⊢
      obtain ⟨s1, s2, s3, s4, s5, s6⟩ := z50 hw.good (q := ⟨4, d.N, d.V, maxC (zc w.consumers d.C) d.V, [], []⟩) (by simp) h0
      rw [s5, hw40]
      exact hsay ⟨4, d.N, d.V, maxC (zc w.consumers d.C) d.V, [], []⟩ (zc w.consumers d.C).Flags (.inr b12) hi ho s1 (.inr ⟨rfl, by show d.N ≤ _; omega⟩) s3 s4
    · rw [if_pos h0]; exact no _ h0
  · omega
end Go.Proofs.YtmakmlnfbdablaaGreat.Ab
namespace Go.Proofs.YtmakmlnfbdablaaGreat.Ab
open Go Go.RowKit
set_option linter.unusedVariables false
set_option linter.unusedSimpArgs false
theorem OkW.cfit {w : Wld} (h : OkW w) {i : Int} (hi : 0 ≤ i ∧ i < 2) : FitC 140737488351232 (zc w.consumers i) := (h.c i hi).fit h.d1
theorem zad8 {w : Wld} (h : OkW w) : zdr w = some (w.p, w) := zab6 h.fit
theorem zar7 {w : Wld} (h : OkW w) {i : Int} (hi : 0 ≤ i ∧ i < 2) : zb6 i w = some (zc w.consumers i, w) := by
  rw [zab7 fun hi => h.cfit hi, if_pos hi]
theorem zanr : zvu = some true := by
  obtain ⟨e1, e2, e3⟩ := do_4
  rw [zvu, ztm, Tr.run_bind zakw, Tr.run_bind (zakz zad0 (by decide)), do_1, Tr.run_bind (zakz okW1 (by decide)), do_2, Tr.run_bind (zakz okW2 (by decide)), do_3, Tr.run_bind (zakz okW3 (by decide))]
  simp only [e1]
  rw [Tr.run_true (by rfl), Tr.run_bind (zanp _), Tr.run_true (by rw [e2]; rfl), Tr.run_bind (zar7 okW4 (by omega)), Tr.run_leaf, e3]
  rfl
theorem zak3 {σ ρ τ : Type} {F : σ → Option (σ ⊕ ρ)} (n : Nat) (mk : Nat → τ → σ) (I : Nat → τ → Prop) (out : τ → ρ)
    (hend : ∀ t, I n t → F (mk n t) = some (.inr (out t))) (hstep : ∀ i t, i < n → I i t → ∃ t', F (mk i t) = some (.inl (mk (i + 1) t')) ∧ I (i + 1) t') {t : τ} (h0 : I 0 t) : ∃ t', ze1 F (mk 0 t) = some (out t') ∧ I n t' := by
  obtain ⟨r, h1, t', h2, h3⟩ := zhb (F := F) n mk I (fun _ _ r => ∃ t', r = out t' ∧ I n t') (fun t h => ⟨out t, hend t h, t, rfl, h⟩) (fun i t hi h => by
    obtain ⟨t', k1, k2⟩ := hstep i t hi h
    exact .inl ⟨t', k1, k2, fun r hr => hr⟩) 0 t (Nat.zero_le _) h0
  exact ⟨t', by rw [h1, h2], h3⟩
def z94 (l : List Deed) : Nat := min l.length 120
theorem zak4 {l : List Deed} : ((decide (((z94 l : Nat) : Int) < ((l.length : Nat) : Int))) && (decide (((z94 l : Nat) : Int) < 120))) = false := by
  unfold z94
  rw [Bool.and_eq_false_iff, decide_eq_false_iff_not, decide_eq_false_iff_not]
  omega
theorem zak5 {l : List Deed} {i : Nat} (h : i < z94 l) : ((decide ((i : Int) < ((l.length : Nat) : Int))) && (decide ((i : Int) < 120))) = true := by
  unfold z94 at h
  rw [Bool.and_eq_true, decide_eq_true_eq, decide_eq_true_eq]
  omega
theorem zans {l : List Deed} {i : Nat} (h : i < z94 l) : i < l.length := by unfold z94 at h; omega
theorem z20 (l : List Deed) : Sl.len (.deeds l) = l.length := rfl
def zawu (l : List Deed) : Prop := l.length ≤ 4611686018427387904 ∧ ∀ d, d ∈ l → d.N ≤ 9223372036854775807
theorem zant {w : Wld} (d : Deed) (h : w.deeds < 600) : (doW w d).1.deeds = w.deeds + 1 := by
  have hp : ∀ r, (zrm (zay w) r).1.deeds = w.deeds + 1 := by intro r; unfold zrm; split <;> rfl
  have hq : ∀ i r, (putW (zay w) i r).1.deeds = w.deeds + 1 := by intro i r; unfold putW; split <;> rfl
  unfold doW
  rw [if_neg (by omega)]
  unfold actW
  repeat' split
  · exact hp _
  · exact hp _
  · exact hp _
  · exact hp _
  · unfold zahd; split <;> rfl
  · unfold zjd; split <;> rfl
  · unfold zq8
    repeat' split
    · rfl
    · rfl
    · rfl
    · unfold z2y; split <;> rfl
    · unfold zw2; split <;> rfl
    · unfold z7t; split <;> rfl
    · unfold zq7; repeat' split
      all_goals rfl
    · unfold zwg; split <;> rfl
    · exact hq _ _
    · exact hq _ _
    · rfl
end Go.Proofs.YtmakmlnfbdablaaGreat.Ab
namespace Go.Proofs.YtmakmlnfbdablaaGreat.Ab
open Go Go.RowKit
set_option linter.unusedVariables false
set_option linter.unusedSimpArgs false
structure Grow (w w' : Wld) (i : Int) : Prop where
  link : (zm w.p.Links i).Out.Said <+: (zm w'.p.Links i).Out.Said
  cons : (zc w.consumers i).Out.Said <+: (zc w'.consumers i).Out.Said
theorem Grow.one {w w' : Wld} {i j : Int} {c : zb} (hj : 0 ≤ j ∧ j < 2) (hi : 0 ≤ i ∧ i < 2) (hl : (zm w.p.Links i).Out.Said <+: (zm w'.p.Links i).Out.Said) (hc : w'.consumers = zpy w.consumers j c) (h : (zc w.consumers j).Out.Said <+: c.Out.Said) : Grow w w' i := by
  refine ⟨hl, ?_⟩
  rw [hc, zw1 hj hi]
  split
  · rename_i e; rw [e]; exact h
  · exact List.prefix_refl _
end Go.Proofs.YtmakmlnfbdablaaGreat.Ab
namespace Go.Proofs.YtmakmlnfbdablaaGreat.Ab
open Go Go.RowKit
set_option linter.unusedVariables false
set_option linter.unusedSimpArgs false
def DeadI (s t : Stake) : Prop := ∀ v : Int, 0 ≤ v → v < 6 → (s.Validators.Dead.get v = true → t.Validators.Dead.get v = true) ∧ s.Validators.Lost.get v ≤ t.Validators.Lost.get v ∧ (s.Validators.Lost.get v < t.Validators.Lost.get v → s.Validators.Dead.get v = false ∧ t.Validators.Dead.get v = true)
theorem DeadI.same {s t : Stake} (h1 : t.Validators.Dead = s.Validators.Dead) (h2 : t.Validators.Lost = s.Validators.Lost) : DeadI s t := by
  intro v _ _
  rw [h1, h2]
  exact ⟨id, Int.le_refl _, fun h => absurd h (Int.lt_irrefl _)⟩
theorem DeadI.refl (s : Stake) : DeadI s s := .same rfl rfl
theorem DeadI.trans {s t u : Stake} (h : DeadI s t) (k : DeadI t u) : DeadI s u := by
  intro v h0 h6
  obtain ⟨a1, a2, a3⟩ := h v h0 h6
  obtain ⟨b1, b2, b3⟩ := k v h0 h6
  refine ⟨fun x => b1 (a1 x), by omega, fun x => ?_⟩
  by_cases e : s.Validators.Lost.get v < t.Validators.Lost.get v
  · exact ⟨(a3 e).1, b1 (a3 e).2⟩
  · obtain ⟨c1, c2⟩ := b3 (by omega)
    refine ⟨?_, c2⟩
    cases hd : s.Validators.Dead.get v with
    | false => rfl
    | true => rw [a1 hd] at c1; cases c1
end Go.Proofs.YtmakmlnfbdablaaGreat.Ab
namespace Go.Proofs.YtmakmlnfbdablaaGreat.Ab
open Go Go.RowKit
set_option linter.unusedVariables false
set_option linter.unusedSimpArgs false
def pkT (q : Packet) : ByteArray := txt (zsk q)
def za5v (s : List Power) (l : List Packet) : List Power := l.foldl (fun s q => z2s s q.Set) s
def zawv : Int → List Packet → Prop
  | _, [] => True
  | id, q :: l => id < q.Id ∧ zawv q.Id l
structure WayI (w : Wld) (i : Int) (ms : List Packet) : Prop where
  way : (zm w.p.Links i).Out.Said.drop (zm w.p.Links i).Out.Got.toNat = ms.map pkT
  good : ∀ q, q ∈ ms → zez q = 0 ∧ q.Kind = 1
  rise : zawv (zc w.consumers i).Id ((zc w.consumers i).Pending ++ ms)
  id : (zc w.consumers i).Id ≤ w.p.Height
  ids : ∀ q, q ∈ (zc w.consumers i).Pending ++ ms → q.Id ≤ w.p.Height
  told : za5v (zc w.consumers i).Set ((zc w.consumers i).Pending ++ ms) = (zm w.p.Links i).Told
theorem WayI.same {w w' : Wld} {i : Int} {ms : List Packet} (h : WayI w i ms) (e1 : (zm w'.p.Links i).Out.Said = (zm w.p.Links i).Out.Said) (e2 : (zm w'.p.Links i).Out.Got = (zm w.p.Links i).Out.Got) (e3 : (zm w'.p.Links i).Told = (zm w.p.Links i).Told)
    (e4 : (zc w'.consumers i).Id = (zc w.consumers i).Id) (e5 : (zc w'.consumers i).Pending = (zc w.consumers i).Pending) (e6 : (zc w'.consumers i).Set = (zc w.consumers i).Set) (e7 : w.p.Height ≤ w'.p.Height) : WayI w' i ms := by
  obtain ⟨a1, a2, a3, a4, a5, a6⟩ := h
  exact ⟨by rw [e1, e2]; exact a1, a2, by rw [e4, e5]; exact a3, by rw [e4]; omega, fun q hq => by rw [e5] at hq; have := a5 q hq; omega, by rw [e5, e6, e3]; exact a6⟩
theorem WayI.cons {w w' : Wld} {i j : Int} {ms : List Packet} {c : zb} (hj : 0 ≤ j ∧ j < 2) (hi : 0 ≤ i ∧ i < 2) (h : WayI w i ms) (hl : (zm w'.p.Links i).Out.Said = (zm w.p.Links i).Out.Said ∧ (zm w'.p.Links i).Out.Got = (zm w.p.Links i).Out.Got ∧ (zm w'.p.Links i).Told = (zm w.p.Links i).Told)
    (hc : w'.consumers = zpy w.consumers j c) (h1 : c.Id = (zc w.consumers j).Id) (h2 : c.Pending = (zc w.consumers j).Pending) (h3 : c.Set = (zc w.consumers j).Set) (hH : w.p.Height ≤ w'.p.Height) : WayI w' i ms := by
  have e := zw1 (C := w.consumers) hj hi c
  refine h.same hl.1 hl.2.1 hl.2.2 ?_ ?_ ?_ hH
  all_goals
    rw [hc, e]
    split
    · rename_i k; rw [k]; assumption
    · rfl
end Go.Proofs.YtmakmlnfbdablaaGreat.Ab
namespace Go.Proofs.YtmakmlnfbdablaaGreat.Ab
open Go Go.RowKit
set_option linter.unusedVariables false
set_option linter.unusedSimpArgs false
theorem zanu {w : Wld} (h : OkW w) (hd : w.deeds < 600) {d : Deed} (k : d.Kind = 6) : (doW w d).1 = zfs w := by
  have ht : zal w.p = true ∧ w.p.Time ≤ w.clock ∧ w.clock ≤ 1099511627776 := ⟨h.pr, h.pt, by have := h.t1; omega⟩
  unfold doW
  rw [if_neg (by omega)]
  unfold actW
  rw [if_neg (by omega), if_neg (by omega), if_neg (by omega), if_neg (by omega), if_neg (by omega), if_pos k]
  unfold zjd
  rw [if_neg (by show ¬ (zli w.p w.clock).2.2 ≠ 0; rw [z9y ht]; simp)]
  rfl
end Go.Proofs.YtmakmlnfbdablaaGreat.Ab
