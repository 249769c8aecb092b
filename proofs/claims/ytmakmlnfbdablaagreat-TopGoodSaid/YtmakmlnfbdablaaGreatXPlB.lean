/-
  The plain lemmas.
-/
import Derived.Test.YtmakmlnfbdablaaGreatXAbInsert
import Derived.Test.YtmakmlnfbdablaaGreatXFBank
import Derived.Test.YtmakmlnfbdablaaGreatXFCodec
import Derived.Test.YtmakmlnfbdablaaGreatXFCons
import Derived.Test.YtmakmlnfbdablaaGreatXFLine
import Derived.Test.YtmakmlnfbdablaaGreatXFProv
import Derived.Test.YtmakmlnfbdablaaGreatXFStakeA
import Derived.Test.YtmakmlnfbdablaaGreatXFStakeB
import Derived.Test.YtmakmlnfbdablaaGreatXFTop
import Derived.Test.YtmakmlnfbdablaaGreatXFWld
import Derived.Test.YtmakmlnfbdablaaGreatXPlA
namespace Go.Proofs.YtmakmlnfbdablaaGreat.Ab
open Go Go.RowKit
set_option linter.unusedVariables false
set_option linter.unusedSimpArgs false
def zug (l : List Power) (id now : Int) : zb := ⟨true, false, 0, now, id, l, [], [], ⟨false, false, false, false, false, false⟩, ⟨[], [], 0, false⟩, ⟨0, 0, 0, 0⟩⟩
theorem zamw {l : List Power} {id now : Int} (hl : l.length * 16 ≤ 140737488355328) : zho l id now = some (zug l id now) := by
  rw [zho, zi3, Tr.run_bind (zagq hl), Tr.run_leaf]; rfl
def z0w (c : zb) (s : List UInt8) : zb × Int :=
  if zk2 c = false then (c, 2) else if c.On = false then (c, 4) else if (zbe s).2 ≠ 0 then (c, (zbe s).2) else if (zbe s).1.Kind ≠ 1 then (c, 3)
  else ({ c with Pending := c.Pending ++ [(zbe s).1] }, 0)
theorem zari {c : zb} {a : ByteArray} (h : FitC 140737488351232 c) (ha : a.size ≤ 140737488355328) : zi4 c a = some (z0w c a.data.toList) := by
  have e1 : ze4 a = some (zbe a.data.toList) := zaa1 (s := a.data.toList) (by have : a.data.toList.length = a.size := rfl; omega)
  have e2 := h.pend
  rw [zi4, zke, Tr.run_bind e1, Tr.run_bind (zpu h)]
  simp only [zagr (l := c.Pending) (by omega), Option.isSome_some, Option.getD_some]
  unfold z0w
  cases hg : zk2 c with
  | false => rw [Tr.run_true (by rfl), Tr.run_leaf, if_pos rfl]
  | true =>
    rw [Tr.run_false (by rfl), if_neg (by simp)]
    cases ho : c.On with
    | false => rw [Tr.run_true (by rfl), Tr.run_leaf, if_pos rfl]
    | true =>
      rw [Tr.run_false (by rfl), if_neg (by simp)]
      by_cases hd : (zbe a.data.toList).2 = 0
      · rw [Tr.run_false (by simpa using hd), if_neg (by simpa using hd)]
        by_cases hk : (zbe a.data.toList).1.Kind = 1
        · rw [Tr.run_false (by simpa using hk), if_neg (by simpa using hk), Tr.run_guard (by trivial), Tr.run_guard (by simp only [zgh, List.length_singleton]; omega), Tr.run_leaf]
        · rw [Tr.run_true (by simpa using hk), if_pos hk, Tr.run_leaf]
      · rw [Tr.run_true (by simpa using hd), if_pos hd, Tr.run_leaf]
def zum (p : Packet) (now : Int) (c : zb) : Int × zb :=
  if (zg8 p).2 ≠ 0 then ((zg8 p).2, c)
  else if (z88 c.Out (zg8 p).1 (IntKind.i64.wrap (now + 40))).2 ≠ 0 then ((z88 c.Out (zg8 p).1 (IntKind.i64.wrap (now + 40))).2, c)
  else (0, { c with Out := (z88 c.Out (zg8 p).1 (IntKind.i64.wrap (now + 40))).1 })
theorem zae9 {p : Packet} {now : Int} {c : zb} (h : (zum p now c).1 ≠ 0) : (zum p now c).2 = c := by
  unfold zum at h ⊢
  split
  · rfl
  · split
    · rfl
    · rename_i h1 h2
      rw [if_neg h1, if_neg h2] at h
      exact absurd rfl h
theorem z7l {p : Packet} {now : Int} {c : zb} : (zum p now c).2.Ripes = c.Ripes := by
  unfold zum
  repeat' split
  all_goals rfl
theorem zafa {p : Packet} {now : Int} {c : zb} (h1 : p.Set.length * 16 ≤ 140737488351232) (h2 : p.Done.length * 8 ≤ 140737488351232) : zbj p now c = some (zum p now c) := by
  rw [zbj, zl6, Tr.run_bind (z43 h1 h2)]
  unfold zum
  by_cases he : (zg8 p).2 = 0
  · rw [if_neg (by simpa using he), Tr.run_false (by simpa using he), Tr.run_bind (zaod _ _ _)]
    by_cases hs : (z88 c.Out (zg8 p).1 (IntKind.i64.wrap (now + 40))).2 = 0
    · rw [if_neg (by simpa using hs), Tr.run_false (by simpa using hs), Tr.run_leaf]
    · rw [if_pos hs, Tr.run_true (by simpa using hs), Tr.run_leaf]
  · rw [if_pos he, Tr.run_true (by simpa using he), Tr.run_leaf]
def clrC (c : zb) (v : Int) : zb := { c with Flags := c.Flags.set v false }
def zabe (c : zb) (l : List Int) : zb := l.foldl clrC c
theorem z5g : ∀ (l : List Int) (c : zb), zabe c l = { c with Flags := l.foldl (fun f v => f.set v false) c.Flags }
  | [], c => rfl
  | v :: l, c => by unfold zabe; rw [List.foldl_cons]; exact (z5g l (clrC c v)).trans rfl
def zsr (now : Int) (c : zb) (p : Packet) : zb :=
  { zabe { c with Set := z4u c.Set p.Set, Id := p.Id } p.Done with Ripes := (zabe { c with Set := z4u c.Set p.Set, Id := p.Id } p.Done).Ripes ++ [⟨p.Id, IntKind.i64.wrap (now + 15)⟩] }
theorem z3b (now : Int) (c : zb) (p : Packet) :
    zsr now c p = { c with Set := z4u c.Set p.Set, Id := p.Id, Flags := p.Done.foldl (fun f v => f.set v false) c.Flags, Ripes := c.Ripes ++ [⟨p.Id, IntKind.i64.wrap (now + 15)⟩] } := by
  unfold zsr; rw [z5g]
def zq8 (now : Int) : List Ripe → zb → zb
  | [], c => c
  | r :: rs, c => if r.Due ≤ now then (if (zum ⟨2, r.Id, 0, 0, [], []⟩ now c).1 ≠ 0 then c else zq8 now rs { (zum ⟨2, r.Id, 0, 0, [], []⟩ now c).2 with Ripes := rs }) else c
def endC (now : Int) (c : zb) : zb × Int :=
  if zk2 c = false then (c, 2) else if c.On = false then (c, 4) else if now < c.Time ∨ 1099511627776 < now then (c, 2)
  else (zq8 now (c.Pending.foldl (zsr now) { c with Height := IntKind.i64.wrap (c.Height + 1), Time := now }).Ripes { c.Pending.foldl (zsr now) { c with Height := IntKind.i64.wrap (c.Height + 1), Time := now } with Pending := [] }, 0)
theorem zawd {now x2 x3 : Int} {x1 : List Packet} {l : List Int} {c z : zb} {p : Packet} (hl : l.length ≤ 9223372036854775807) (hv : ∀ v, v ∈ l → 0 ≤ v ∧ v ≤ 5) :
    zkf now x1 x2 x3 l l.length 0 c z p = some (now, x1, x2, x3, zabe c l, z, p) := by
  rw [zkf]
  refine zkz (F := fun s : Int × (List Packet) × Int × Int × (List Int) × Int × Int × zb × zb × Packet => (ze8 s.1 s.2.1 s.2.2.1 s.2.2.2.1 s.2.2.2.2.1 s.2.2.2.2.2.1 s.2.2.2.2.2.2.1 s.2.2.2.2.2.2.2.1 s.2.2.2.2.2.2.2.2.1 s.2.2.2.2.2.2.2.2.2).run) l 0
    (fun i t => (now, x1, x2, x3, l, (l.length : Int), (i : Int), t, z, p)) (fun _ _ => True) clrC (fun t => (now, x1, x2, x3, t, z, p)) ?_ ?_ c trivial
  · intro t _
    simp only [ze8]; rw [Tr.run_false (by simp), Tr.run_leaf]
  · intro i t hi _
    have hm := hv _ (zjb (l := l) (k := i) hi 0)
    refine ⟨?_, trivial⟩
    simp only [ze8, Int.toNat_natCast]
    rw [Tr.run_true (by simpa using hi), Tr.run_guard ⟨by omega, by rw [zps]; omega⟩, Tr.run_guard (by omega), Tr.run_leaf, zz (by omega)]
    rfl
theorem z5h {l : List Packet} (h : l.all zns = true) : ∀ p, p ∈ l → zgd p = 0 ∧ p.Kind = 1 ∧ (∀ v, v ∈ p.Done → 0 ≤ v ∧ v ≤ 5) := by
  intro p hp
  have h1 := List.all_eq_true.1 h p hp
  unfold zns at h1
  simp only [Bool.and_eq_true, beq_iff_eq] at h1
  obtain ⟨g1, g2, g3, g4, g5, g6, g7, g8, g9, g10, _, _⟩ := zov h1.2
  exact ⟨h1.2, h1.1, zwq g10 (by omega)⟩
theorem zawe {now : Int} {l : List Packet} {c z : zb} (hl : l.length ≤ 9223372036854775807) (hg : l.all zns = true) (hs : c.Set.length ≤ 9223372036854775807)
    (hp : ∀ p, p ∈ l → p.Set.length * 16 ≤ 140737488351232 ∧ p.Done.length * 8 ≤ 140737488351232) (hr : (c.Ripes.length + l.length) * 16 ≤ 140737488355328) :
    zkg now l l.length 0 c z = some (now, l.foldl (zsr now) c, z) := by
  rw [zkg]
  refine zkz (F := fun s : Int × (List Packet) × Int × Int × zb × zb => (ze9 s.1 s.2.1 s.2.2.1 s.2.2.2.1 s.2.2.2.2.1 s.2.2.2.2.2).run) l default
    (fun i t => (now, l, (l.length : Int), (i : Int), t, z)) (fun i t => t.Ripes.length = c.Ripes.length + i ∧ t.Set.length ≤ 9223372036854775807) (zsr now) (fun t => (now, t, z)) ?_ ?_ c ⟨rfl, hs⟩
  · intro t _
    simp only [ze9]; rw [Tr.run_false (by simp), Tr.run_leaf]
  · intro i t hi ht
    obtain ⟨t1, t2⟩ := ht
    have hm := zjb (l := l) (k := i) hi default
    obtain ⟨p1, p2⟩ := hp _ hm
    obtain ⟨q1, q2, q3⟩ := z5h hg _ hm
    have hset := z4v (fun v => zaav (l.getD i default).Set v (zd7 t.Set v))
    refine ⟨?_, by rw [z3b]; simp only [List.length_append, List.length_singleton]; omega, by rw [z3b]; unfold z4u; simp only []; omega⟩
    simp only [ze9, Int.toNat_natCast]
    rw [Tr.run_true (by simpa using hi), Tr.run_guard ⟨by omega, by rw [zgh]; omega⟩, Tr.run_bind (zal0 t2 (by omega)), Tr.run_bind (zawd (by omega) q3)]
    simp only []
    rw [Tr.run_guard (by simp only [zm4, List.length_singleton, z5g]; omega), Tr.run_leaf, zz (by omega)]
    rfl
theorem zaoh {now : Int} {z : zb} : ∀ (rs : List Ripe) (c : zb), c.Ripes = rs → zbz now c z = some (zq8 now rs c, z)
  | [], c, h => by
    rw [zbz]
    refine zgc ?_
    simp only [zdq, h]
    rw [Tr.run_guard (by simp), Tr.run_false (by simp), Tr.run_leaf]
    rfl
  | r :: rs, c, h => by
    have hlen : (Sl.len (.ripes (r :: rs))) = rs.length + 1 := rfl
    unfold zq8
    by_cases hd : r.Due ≤ now
    · rw [if_pos hd]
      by_cases hs : (zum ⟨2, r.Id, 0, 0, [], []⟩ now c).1 = 0
      · rw [if_neg (by simpa using hs), ← zaoh rs { (zum ⟨2, r.Id, 0, 0, [], []⟩ now c).2 with Ripes := rs } rfl, zbz, zbz]
        refine zdw ?_
        simp only [zdq, h, List.getD_cons_zero, hlen, z7l]
        rw [Tr.run_guard (by intro _; exact ⟨⟨by omega, by omega⟩, trivial⟩), Tr.run_true (by simp [hd]), Tr.run_guard (by omega), Tr.run_bind (zafa (by simp) (by simp)), Tr.run_false (by simpa using hs)]
        simp only [z7l, h, hlen]
        rw [Tr.run_guard (by omega), Tr.run_leaf]
        simp only [List.drop_succ_cons, List.drop_zero, Int.toNat_natCast, Nat.add_sub_cancel, List.take_length]
      · rw [if_pos hs, zbz]
        refine zgc ?_
        simp only [zdq, h, List.getD_cons_zero, hlen]
        rw [Tr.run_guard (by intro _; exact ⟨⟨by omega, by omega⟩, trivial⟩), Tr.run_true (by simp [hd]), Tr.run_guard (by omega), Tr.run_bind (zafa (by simp) (by simp)), Tr.run_true (by simpa using hs), Tr.run_leaf, zae9 hs]
    · rw [if_neg hd, zbz]
      refine zgc ?_
      simp only [zdq, h, List.getD_cons_zero, hlen]
      rw [Tr.run_guard (by intro _; exact ⟨⟨by omega, by omega⟩, trivial⟩), Tr.run_false (by simp [hd]), Tr.run_leaf]
theorem zdh {c : zb} (h : zk2 c = true) : zadg c ∧ zer c.Out ∧ zx 1 (-1) c.Set = true ∧ c.Ripes.all zm8 = true ∧ c.Pending.all zns = true := by
  unfold zk2 at h
  simp only [Bool.and_eq_true, decide_eq_true_eq] at h
  exact ⟨h.1.1.1.1, h.1.1.1.2, h.1.1.2, h.1.2, h.2⟩
theorem zawf {now : Int} {c : zb} (h : FitC 140737488351232 c) (hr : (c.Ripes.length + c.Pending.length) * 16 ≤ 140737488355328) : zw c now = some (endC now c) := by
  have e1 := h.set; have e2 := h.pend; have e3 := h.ripes
  rw [zw, zl8, Tr.run_bind (zpu h)]
  unfold endC
  cases hg : zk2 c with
  | false => rw [Tr.run_true (by rfl), Tr.run_leaf, if_pos rfl]
  | true =>
    obtain ⟨_, _, _, _, hp⟩ := zdh hg
    rw [Tr.run_false (by rfl), if_neg (by simp)]
    cases ho : c.On with
    | false => rw [Tr.run_true (by rfl), Tr.run_leaf, if_pos rfl]
    | true =>
      rw [Tr.run_false (by rfl), if_neg (by simp)]
      by_cases ht : now < c.Time ∨ 1099511627776 < now
      · rw [if_pos ht, Tr.run_true (by simpa using ht), Tr.run_leaf]
      · rw [if_neg ht, Tr.run_false (by simp; omega), Tr.run_bind (zags (by omega))]
        rw [Tr.run_bind (zawe (by omega) hp (by simp only []; omega) h.ps (by simp only []; omega))]
        simp only []
        rw [Tr.run_bind (zaoh _ _ rfl), Tr.run_leaf, ho]
theorem zx2 {now : Int} : ∀ (l : List Packet) (c : zb), (l.foldl (zsr now) c).Ripes.length = c.Ripes.length + l.length ∧ (l.foldl (zsr now) c).Out = c.Out ∧ (l.foldl (zsr now) c).On = c.On ∧ (l.foldl (zsr now) c).Gone = c.Gone ∧ (l.foldl (zsr now) c).Height = c.Height ∧ (l.foldl (zsr now) c).Time = c.Time
  | [], c => ⟨rfl, rfl, rfl, rfl, rfl, rfl⟩
  | p :: l, c => by
    rw [List.foldl_cons]
    obtain ⟨h1, h2, h3, h4, h5, h6⟩ := zx2 l (zsr now c p)
    rw [z3b] at h1 h2 h3 h4 h5 h6 ⊢
    refine ⟨?_, h2, h3, h4, h5, h6⟩
    rw [h1]
    show (c.Ripes ++ [(⟨p.Id, IntKind.i64.wrap (now + 15)⟩ : Ripe)]).length + l.length = _
    rw [List.length_append, List.length_singleton, List.length_cons]
    omega
end Go.Proofs.YtmakmlnfbdablaaGreat.Ab
namespace Go.Proofs.YtmakmlnfbdablaaGreat.Ab
open Go Go.RowKit
set_option linter.unusedVariables false
set_option linter.unusedSimpArgs false
theorem z7m : ∀ {l : List Power} {p v : Int}, zx 1 p l = true → zd7 l v = 0 ∨ 1 ≤ zd7 l v
  | [], _, _, _ => .inl rfl
  | a :: l, p, v, h => by
    rw [zx] at h
    simp only [Bool.and_eq_true, decide_eq_true_eq] at h
    unfold zd7
    split
    · exact .inr h.1.1.2
    · exact z7m h.2
def zabf (c : zb) (v now : Int) : zb × Int :=
  if zk2 c = false ∨ now < 0 ∨ 1099511627776 < now then (c, 2) else if c.On = false ∨ v < 0 ∨ 5 < v ∨ zd7 c.Set v = 0 then (c, 4) else if c.Flags.get v = true then (c, 5)
  else if (zum ⟨3, c.Id, v, zd7 c.Set v, [], []⟩ now c).1 ≠ 0 then (c, (zum ⟨3, c.Id, v, zd7 c.Set v, [], []⟩ now c).1)
  else ({ (zum ⟨3, c.Id, v, zd7 c.Set v, [], []⟩ now c).2 with Flags := (zum ⟨3, c.Id, v, zd7 c.Set v, [], []⟩ now c).2.Flags.set v true }, 0)
theorem zarj {c : zb} {v now : Int} (h : FitC 140737488351232 c) : zd9 c v now = some (zabf c v now) := by
  have e1 := h.set
  have hsay := fun n => zafa (p := ⟨3, c.Id, v, n, [], []⟩) (now := now) (c := c) (by simp) (by simp)
  rw [zd9, zkh, Tr.run_bind (zpu h)]
  simp only [zae8 (l := c.Set) (v := v) (by omega), hsay, Option.isSome_some, Option.getD_some]
  unfold zabf
  by_cases h1 : zk2 c = false ∨ now < 0 ∨ 1099511627776 < now
  · rw [if_pos h1, Tr.run_true (by simpa [or_assoc] using h1), Tr.run_leaf]
  · rw [if_neg h1, Tr.run_false (by rw [Bool.eq_false_iff]; intro k; apply h1; simpa [or_assoc] using k), Tr.run_guard (by simp)]
    by_cases h2 : c.On = false ∨ v < 0 ∨ 5 < v ∨ zd7 c.Set v = 0
    · rw [if_pos h2, Tr.run_true (by
        simp only [Bool.or_eq_true, Bool.not_eq_true', decide_eq_true_eq, beq_iff_eq]
        rcases h2 with h2 | h2 | h2 | h2
        · exact .inl (.inl (.inl h2))
        · exact .inl (.inl (.inr h2))
        · exact .inl (.inr (by omega))
        · exact .inr h2), Tr.run_leaf]
    · simp only [not_or] at h2
      rw [if_neg (by simp only [not_or]; exact h2), Tr.run_false (by
        simp only [Bool.or_eq_false_iff, Bool.not_eq_false', decide_eq_false_iff_not, beq_eq_false_iff_ne]
        exact ⟨⟨⟨by simpa using h2.1, h2.2.1⟩, by omega⟩, h2.2.2.2⟩), Tr.run_guard (by omega)]
      by_cases h3 : c.Flags.get v = true
      · rw [if_pos h3, Tr.run_true h3, Tr.run_leaf]
      · rw [if_neg h3, Tr.run_false (by simpa using h3), Tr.run_guard (by trivial), Tr.run_guard (by trivial)]
        by_cases h4 : (zum ⟨3, c.Id, v, zd7 c.Set v, [], []⟩ now c).1 = 0
        · rw [if_neg (by simpa using h4), Tr.run_false (by simpa using h4), Tr.run_guard (by omega), Tr.run_leaf]
        · rw [if_pos h4, Tr.run_true (by simpa using h4), Tr.run_leaf, zae9 h4]
def maxC (c : zb) (v : Int) : Int := if zd7 c.Set v = 0 then 1 else zd7 c.Set v
def z1m (c : zb) (v id now : Int) : zb × Int :=
  if zk2 c = false ∨ now < 0 ∨ 1099511627776 < now then (c, 2) else if c.On = false ∨ v < 0 ∨ 5 < v then (c, 4) else if id < 1 ∨ c.Id < id then (c, 2)
  else ((zum ⟨4, id, v, maxC c v, [], []⟩ now c).2, (zum ⟨4, id, v, maxC c v, [], []⟩ now c).1)
theorem zajv {c : zb} {v id now : Int} (h : FitC 140737488351232 c) : zdb c v id now = some (z1m c v id now) := by
  have e1 := h.set
  rw [zdb, zhp, Tr.run_bind (zpu h)]
  unfold z1m
  by_cases h1 : zk2 c = false ∨ now < 0 ∨ 1099511627776 < now
  · rw [if_pos h1, Tr.run_true (by simpa [or_assoc] using h1), Tr.run_leaf]
  · rw [if_neg h1, Tr.run_false (by rw [Bool.eq_false_iff]; intro k; apply h1; simpa [or_assoc] using k)]
    by_cases h2 : c.On = false ∨ v < 0 ∨ 5 < v
    · rw [if_pos h2, Tr.run_true (by
        simp only [Bool.or_eq_true, Bool.not_eq_true', decide_eq_true_eq]
        rcases h2 with h2 | h2 | h2
        · exact .inl (.inl h2)
        · exact .inl (.inr h2)
        · exact .inr (by omega)), Tr.run_leaf]
    · simp only [not_or] at h2
      rw [if_neg (by simp only [not_or]; exact h2), Tr.run_false (by
        simp only [Bool.or_eq_false_iff, Bool.not_eq_false', decide_eq_false_iff_not]
        exact ⟨⟨by simpa using h2.1, h2.2.1⟩, by omega⟩)]
      by_cases h3 : id < 1 ∨ c.Id < id
      · rw [if_pos h3, Tr.run_true (by simpa using h3), Tr.run_leaf]
      · have hg : zk2 c = true := by simp only [not_or] at h1; simpa using h1.1
        have hf := z7m (v := v) (zdh hg).2.2.1
        have hm : (if zd7 c.Set v > 1 then zd7 c.Set v else 1) = maxC c v := by
          unfold maxC
          rcases hf with hf | hf
          · rw [if_neg (by omega), if_pos hf]
          · rw [if_neg (show ¬ zd7 c.Set v = 0 by omega)]
            split <;> omega
        rw [if_neg h3, Tr.run_false (by simp; omega), Tr.run_bind (zae8 (by omega)), hm, Tr.run_bind (zafa (by simp) (by simp))]
        by_cases h4 : (zum ⟨4, id, v, maxC c v, [], []⟩ now c).1 = 0
        · rw [Tr.run_false (by simpa using h4), Tr.run_leaf, h4]
        · rw [Tr.run_true (by simpa using h4), Tr.run_leaf]
def z1n (c : zb) : zb := if c.On = false then c else { c with On := false, Gone := true, Out := { c.Out with Closed := true } }
theorem zabg {c : zb} : zgs c = some (z1n c) := by
  rw [zgs, zhq]
  unfold z1n
  cases ho : c.On with
  | false => rw [Tr.run_true (by rfl), Tr.run_leaf, if_pos rfl]
  | true => rw [Tr.run_false (by rfl), Tr.run_leaf, if_neg (by simp)]
end Go.Proofs.YtmakmlnfbdablaaGreat.Ab
namespace Go.Proofs.YtmakmlnfbdablaaGreat.Ab
open Go Go.RowKit
set_option linter.unusedVariables false
set_option linter.unusedSimpArgs false
theorem zadh {l : zes} {s : ByteArray} {u : Int} (h : (z88 l s u).2 = 0) : zer l ∧ 0 ≤ u ∧ l.Closed = false ∧ l.Said.length < 400 ∧ z88 l s u = ({ l with Said := l.Said ++ [s], Due := l.Due ++ [u] }, 0) := by
  unfold z88 at h ⊢
  by_cases h1 : ¬ zer l ∨ u < 0
  · rw [if_pos h1] at h; cases h
  · rw [if_neg h1] at h ⊢
    simp only [not_or, Classical.not_not] at h1
    by_cases h2 : l.Closed = true
    · rw [if_pos h2] at h; cases h
    · rw [if_neg h2] at h ⊢
      by_cases h3 : 400 ≤ l.Said.length
      · rw [if_pos h3] at h; cases h
      · rw [if_neg h3]
        exact ⟨h1.1, by omega, by simpa using h2, by omega, rfl⟩
theorem zamx {l : zes} {s : ByteArray} {u : Int} (h1 : zer l) (h2 : 0 ≤ u) (h3 : l.Closed = false) (h4 : l.Said.length < 400) : z88 l s u = ({ l with Said := l.Said ++ [s], Due := l.Due ++ [u] }, 0) := by
  unfold z88
  rw [if_neg (by simp only [not_or, Classical.not_not]; exact ⟨h1, by omega⟩), if_neg (by rw [h3]; simp), if_neg (by omega)]
theorem z7n {l : zes} {s : ByteArray} {u : Int} (h1 : zer l) (h2 : 0 ≤ u) (h4 : l.Said.length < 400) : zer { l with Said := l.Said ++ [s], Due := l.Due ++ [u] } := by
  obtain ⟨g1, g2, g3, g4, g5⟩ := h1
  refine ⟨by simp [g1], by simp only [List.length_append, List.length_singleton]; omega, g3, by simp only [List.length_append, List.length_singleton]; omega, ?_⟩
  simp only [List.any_append, g5, Bool.false_or, List.any_cons, List.any_nil, Bool.or_false, decide_eq_false_iff_not]
  omega
theorem zajw {p : Packet} {now : Int} {c : zb} (h : (zum p now c).1 = 0) : zgd p = 0 ∧ (z88 c.Out (txt (zyq p)) (IntKind.i64.wrap (now + 40))).2 = 0 ∧
    zum p now c = (0, { c with Out := { c.Out with Said := c.Out.Said ++ [txt (zyq p)], Due := c.Out.Due ++ [IntKind.i64.wrap (now + 40)] } }) := by
  have hg : zgd p = 0 := by
    refine Classical.byContradiction fun hn => ?_
    unfold zum at h
    rw [zac3 hn, if_pos hn] at h
    exact hn h
  unfold zum at h ⊢
  rw [zm5 hg, if_neg (by simp)] at h ⊢
  simp only at h ⊢
  by_cases hs : (z88 c.Out (txt (zyq p)) (IntKind.i64.wrap (now + 40))).2 = 0
  · rw [if_neg (by simpa using hs), (zadh hs).2.2.2.2]
    exact ⟨hg, rfl, rfl⟩
  · rw [if_pos hs] at h
    exact absurd h hs
theorem zamy {p : Packet} {now : Int} {c : zb} (hg : zgd p = 0) (h1 : zer c.Out) (h2 : 0 ≤ IntKind.i64.wrap (now + 40)) (h3 : c.Out.Closed = false) (h4 : c.Out.Said.length < 400) :
    zum p now c = (0, { c with Out := { c.Out with Said := c.Out.Said ++ [txt (zyq p)], Due := c.Out.Due ++ [IntKind.i64.wrap (now + 40)] } }) := by
  unfold zum
  rw [zm5 hg, if_neg (by simp)]
  simp only
  rw [zamx h1 h2 h3 h4, if_neg (by simp)]
theorem zq9 {c : zb} (h1 : zadg c) (h2 : zer c.Out) (h3 : zx 1 (-1) c.Set = true) (h4 : c.Ripes.all zm8 = true) (h5 : c.Pending.all zns = true) : zk2 c = true := by
  unfold zk2
  rw [decide_eq_true h1, decide_eq_true h2, h3, h4, h5]; rfl
theorem zamz {now : Int} {c : zb} (h1 : zk2 c = true) (h2 : c.On = true) (h3 : c.Time ≤ now) (h4 : now ≤ 1099511627776) :
    endC now c = (zq8 now (c.Pending.foldl (zsr now) { c with Height := IntKind.i64.wrap (c.Height + 1), Time := now }).Ripes { c.Pending.foldl (zsr now) { c with Height := IntKind.i64.wrap (c.Height + 1), Time := now } with Pending := [] }, 0) := by
  unfold endC
  rw [if_neg (by rw [h1]; simp), if_neg (by rw [h2]; simp), if_neg (by omega)]
theorem zam0 {c : zb} {v now : Int} (h : (zabf c v now).2 = 0) : zk2 c = true ∧ 0 ≤ now ∧ now ≤ 1099511627776 ∧ c.On = true ∧ 0 ≤ v ∧ v ≤ 5 ∧ zd7 c.Set v ≠ 0 ∧ (zum ⟨3, c.Id, v, zd7 c.Set v, [], []⟩ now c).1 = 0 ∧
    zabf c v now = ({ (zum ⟨3, c.Id, v, zd7 c.Set v, [], []⟩ now c).2 with Flags := (zum ⟨3, c.Id, v, zd7 c.Set v, [], []⟩ now c).2.Flags.set v true }, 0) := by
  unfold zabf at h ⊢
  by_cases h1 : zk2 c = false ∨ now < 0 ∨ 1099511627776 < now
  · rw [if_pos h1] at h; cases h
  · rw [if_neg h1] at h ⊢
    by_cases h2 : c.On = false ∨ v < 0 ∨ 5 < v ∨ zd7 c.Set v = 0
    · rw [if_pos h2] at h; cases h
    · rw [if_neg h2] at h ⊢
      by_cases h3 : c.Flags.get v = true
      · rw [if_pos h3] at h; cases h
      · rw [if_neg h3] at h ⊢
        by_cases h4 : (zum ⟨3, c.Id, v, zd7 c.Set v, [], []⟩ now c).1 = 0
        · rw [if_neg (by simpa using h4)]
          simp only [not_or] at h1 h2
          exact ⟨by simpa using h1.1, by omega, by omega, by simpa using h2.1, by omega, by omega, h2.2.2.2, h4, rfl⟩
        · rw [if_pos h4] at h
          exact absurd h h4
end Go.Proofs.YtmakmlnfbdablaaGreat.Ab
namespace Go.Proofs.YtmakmlnfbdablaaGreat.Ab
open Go Go.RowKit
set_option linter.unusedVariables false
set_option linter.unusedSimpArgs false
theorem z5i : zer ⟨[], [], 0, false⟩ := ⟨rfl, by decide, by decide, by decide, by decide⟩
theorem zajx {id : Int} (h1 : 1 ≤ id) (h2 : id ≤ 1099511627776) : zgd ⟨2, id, 0, 0, [], []⟩ = 0 := by
  unfold zgd
  rw [if_neg (by simp), if_neg (by simp; omega), if_neg (by simp), if_neg (by simp [zx]), if_neg (by simp [zak])]
end Go.Proofs.YtmakmlnfbdablaaGreat.Ab
namespace Go.Proofs.YtmakmlnfbdablaaGreat.Ab
open Go Go.RowKit
set_option linter.unusedVariables false
set_option linter.unusedSimpArgs false
theorem zadi {m p q : Int} {l : List Power} (h : zx m q l = true) (hp : p ≤ q) : zx m p l = true := by
  cases l with
  | nil => rfl
  | cons a l =>
    simp only [zx, Bool.and_eq_true, decide_eq_true_eq] at h ⊢
    exact ⟨⟨⟨⟨by omega, h.1.1.1.2⟩, h.1.1.2⟩, h.1.2⟩, h.2⟩
theorem zow {m p w n : Int} {s l : List Power} (hs : s = [] ∨ (s = [⟨w, n⟩] ∧ m ≤ n ∧ n ≤ 1125899906842624)) (hp : p < w) (hw : w ≤ 5) (hl : zx m w l = true) : zx m p (s ++ l) = true := by
  rcases hs with rfl | ⟨rfl, h1, h2⟩
  · exact zadi hl (by omega)
  · simp only [List.cons_append, List.nil_append, zx, Bool.and_eq_true, decide_eq_true_eq]
    exact ⟨⟨⟨⟨hp, hw⟩, h1⟩, h2⟩, hl⟩
theorem z1o {w n : Int} (h : n ≤ 1125899906842624) : z0q w n = [] ∨ (z0q w n = [⟨w, n⟩] ∧ (1 : Int) ≤ n ∧ n ≤ 1125899906842624) := by
  unfold z0q
  by_cases hn : 0 < n
  · rw [if_pos hn]; exact .inr ⟨rfl, by omega, h⟩
  · rw [if_neg hn]; exact .inl rfl
theorem zam1 {f : Nat → Int} (h : ∀ v, f v ≤ 1125899906842624) : zx 1 (-1) (zk4 f) = true := by
  rw [z87]
  exact zow (z1o (h 0)) (by omega) (by omega) (zow (z1o (h 1)) (by omega) (by omega) (zow (z1o (h 2)) (by omega) (by omega) (zow (z1o (h 3)) (by omega) (by omega)
    (zow (z1o (h 4)) (by omega) (by omega) (zow (z1o (h 5)) (by omega) (by omega) rfl)))))
end Go.Proofs.YtmakmlnfbdablaaGreat.Ab
namespace Go.Proofs.YtmakmlnfbdablaaGreat.Ab
open Go Go.RowKit
set_option linter.unusedVariables false
set_option linter.unusedSimpArgs false
abbrev zi0 (L : Links) (c : Int) : zes := ⟨L.Said.get c, L.Due.get c, L.Got.get c, L.Closed.get c⟩
def okLk (p : za) (c : Int) : Bool := !(p.Links.On.get c && p.Links.Gone.get c) && decide (0 ≤ p.Links.Base.get c) && decide (p.Links.Base.get c ≤ p.Height) && zx 1 (-1) (p.Links.Told.get c) && decide (zer (zi0 p.Links c)) && zak (-1) (p.Links.Done.get c)
def zw6 (p : za) (a : Asked) : Bool := decide (0 ≤ a.C) && decide (a.C < 2) && p.Links.On.get a.C && (zgd a.P == 0) && !(a.P.Kind == 1)
def z2l (p : za) : Prop := 0 ≤ p.Height ∧ p.Height < 1099511627776 ∧ 0 ≤ p.Time ∧ p.Time ≤ 1099511627776
instance (p : za) : Decidable (z2l p) := inferInstanceAs (Decidable (_ ∧ _))
def zat (p : za) : Bool := decide (GoodS p.Stake) && decide (z2l p) && zx 1 (-1) p.Set && okLk p 0 && okLk p 1 && p.Queue.all (zw6 p)
structure FitPr (R : Nat) (p : za) : Prop where
  waits : p.Stake.Waits.length * 64 ≤ R
  set : p.Set.length * 16 ≤ R
  told : ∀ c, (p.Links.Told.get c).length * 16 ≤ R
  done : ∀ c, (p.Links.Done.get c).length * 8 ≤ R
  said : ∀ c, (p.Links.Said.get c).length * 16 ≤ R
  due : ∀ c, (p.Links.Due.get c).length * 8 ≤ R
  queue : p.Queue.length * 88 ≤ R
  ps : ∀ a, a ∈ p.Queue → a.P.Set.length * 16 ≤ R ∧ a.P.Done.length * 8 ≤ R
theorem FitPr.mono {R S : Nat} {p : za} (h : FitPr R p) (hr : R ≤ S) : FitPr S p :=
  ⟨Nat.le_trans h.waits hr, Nat.le_trans h.set hr, fun c => Nat.le_trans (h.told c) hr, fun c => Nat.le_trans (h.done c) hr, fun c => Nat.le_trans (h.said c) hr, fun c => Nat.le_trans (h.due c) hr, Nat.le_trans h.queue hr,
    fun a ha => ⟨Nat.le_trans (h.ps a ha).1 hr, Nat.le_trans (h.ps a ha).2 hr⟩⟩
theorem zajy {L : Links} {c : Int} {p : za} {k : Link} {l : List Int} (hp : k.Done = l) (hl : l.length ≤ 9223372036854775807) :
    ∃ r, zpj L c l l.length 0 p k = some r ∧ (match r with | .inl b => b = false ∧ zak (-1) l = false | .inr x => x = (L, c, p) ∧ zak (-1) l = true) := by
  have := zs1 (F := fun s : Links × Int × (List Int) × Int × Int × za × Link => (zgt s.1 s.2.1 s.2.2.1 s.2.2.2.1 s.2.2.2.2.1 s.2.2.2.2.2.1 s.2.2.2.2.2.2).run)
    (fun s => s.1 = L ∧ s.2.1 = c ∧ s.2.2.1 = l ∧ s.2.2.2.1 = l.length ∧ 0 ≤ s.2.2.2.2.1 ∧ s.2.2.2.2.1 ≤ l.length ∧ s.2.2.2.2.2.1 = p ∧ s.2.2.2.2.2.2 = k ∧ (0 < s.2.2.2.2.1 → 0 ≤ zoo l s.2.2.2.2.1)) (fun s => l.length - s.2.2.2.2.1.toNat)
    (fun s r => match r with | .inl b => b = false ∧ zak (zoo l s.2.2.2.2.1) (l.drop s.2.2.2.2.1.toNat) = false | .inr x => x = (L, c, p) ∧ zak (zoo l s.2.2.2.2.1) (l.drop s.2.2.2.2.1.toNat) = true) ?_ (L, c, l, (l.length : Int), 0, p, k) ⟨rfl, rfl, rfl, rfl, by simp, by simp, rfl, rfl, by simp⟩
  · exact this
  · rintro ⟨y0, y1, x0, x1, x2, x3, x4⟩ ⟨g1, g2, h1, h2, h3, h4, h5, g3, h6⟩
    simp only at g1 g2 g3 h1 h2 h3 h4 h5 h6
    rw [g1, g2, g3, h1, h2, h5] at *
    simp only [zgt, hp]
    by_cases hc : x2 < l.length
    · have hs := zbm (l := l) (k := x2.toNat) (by omega) 0
      rw [Tr.run_true (by simpa using hc), Tr.run_guard ⟨h3, hc⟩, Tr.run_guard (by
        intro h _
        simp only [decide_eq_true_eq] at h
        rw [zl (x := x2 - 1) (by omega) (by omega)]
        exact ⟨⟨by omega, by simp only [Sl.len]; omega⟩, trivial⟩)]
      rw [hs]
      have hp : (decide (x2 > 0) && decide (l.getD (IntKind.i64.wrap (x2 - 1)).toNat 0 ≥ l.getD x2.toNat 0)) = (decide (x2 > 0) && decide (zoo l x2 ≥ l.getD x2.toNat 0)) := by
        by_cases h0 : x2 > 0
        · rw [zl (x := x2 - 1) (by omega) (by omega)]
          unfold zoo
          rw [if_neg (by omega)]
        · simp [h0]
      rw [hp]
      generalize hq : l.getD x2.toNat 0 = q at *
      by_cases hd : zoo l x2 < q ∧ q ≤ 5
      · obtain ⟨d1, d2⟩ := hd
        have hw : IntKind.i64.wrap (x2 + 1) = x2 + 1 := zl (by omega) (by omega)
        have hpv : zoo l (x2 + 1) = q := by unfold zoo; rw [if_neg (by omega), show x2 + 1 - 1 = x2 by omega, hq]
        have hq0 : 0 ≤ q := by
          by_cases h0 : x2 > 0
          · have := h6 h0; omega
          · have : zoo l x2 = -1 := by unfold zoo; rw [if_pos (by omega)]
            omega
        refine .inl ⟨_, by rw [Tr.run_false (by simp; omega), Tr.run_leaf, hw], ⟨rfl, rfl, rfl, rfl, ?_, ?_, rfl, rfl, ?_⟩, ?_, ?_⟩
        · simp only []; omega
        · simp only []; omega
        · simp only []; rw [hpv]; intro _; omega
        · simp only []; omega
        · simp only []
          rw [hpv, show (x2 + 1).toNat = x2.toNat + 1 by omega]
          intro r hr
          rw [zak, decide_eq_true d1, decide_eq_true d2]
          simpa using hr
      · refine .inr ⟨_, by rw [Tr.run_true (by
          by_cases h0 : x2 > 0
          · have := h6 h0
            simp [h0]; omega
          · have : zoo l x2 = -1 := by unfold zoo; rw [if_pos (by omega)]
            simp [h0]; omega), Tr.run_leaf], ?_⟩
        refine ⟨rfl, ?_⟩
        rw [zak]
        simp only [Bool.and_eq_false_iff, decide_eq_false_iff_not]
        omega
    · refine .inr ⟨_, by rw [Tr.run_false (by simpa using hc), Tr.run_leaf], ?_⟩
      refine ⟨rfl, ?_⟩
      rw [List.drop_eq_nil_of_le (by omega)]; rfl
theorem zam2 {l : List Power} (hl : l.length ≤ 9223372036854775807) :
    ∃ r, zqx l l l.length 0 = some r ∧ (match r with | .inl b => b = false ∧ zx 1 (-1) l = false | .inr x => zx 1 (-1) l = true) := by
  have := zs1 (F := fun s : (List Power) × (List Power) × Int × Int => (zhr s.1 s.2.1 s.2.2.1 s.2.2.2).run)
    (fun s => s.1 = l ∧ s.2.1 = l ∧ s.2.2.1 = l.length ∧ 0 ≤ s.2.2.2 ∧ s.2.2.2 ≤ l.length ∧ -1 ≤ zgx l s.2.2.2 ∧ (0 < s.2.2.2 → 0 ≤ zgx l s.2.2.2)) (fun s => l.length - s.2.2.2.toNat)
    (fun s r => match r with | .inl b => b = false ∧ zx 1 (zgx l s.2.2.2) (l.drop s.2.2.2.toNat) = false | .inr x => zx 1 (zgx l s.2.2.2) (l.drop s.2.2.2.toNat) = true) ?_ (l, l, (l.length : Int), 0) ⟨rfl, rfl, rfl, by simp, by simp, by simp [zgx], by simp⟩
  · exact this
  · rintro ⟨y0, x0, x1, x2⟩ ⟨g1, h1, h2, h3, h4, h6, h7⟩
    simp only at g1 h1 h2 h3 h4 h6 h7
    rw [g1, h1, h2] at *
    simp only [zhr]
    by_cases hc : x2 < l.length
    · have hs := zbm (l := l) (k := x2.toNat) (by omega) default
      rw [Tr.run_true (by simpa using hc), Tr.run_guard ⟨h3, hc⟩, Tr.run_guard (by
        intro h _
        simp only [decide_eq_true_eq] at h
        rw [zl (x := x2 - 1) (by omega) (by omega)]
        exact ⟨⟨by omega, by simp only [Sl.len]; omega⟩, trivial⟩)]
      rw [hs]
      have hp : (decide (x2 > 0) && decide ((l.getD (IntKind.i64.wrap (x2 - 1)).toNat default).V ≥ (l.getD x2.toNat default).V)) = (decide (x2 > 0) && decide (zgx l x2 ≥ (l.getD x2.toNat default).V)) := by
        by_cases h0 : x2 > 0
        · rw [zl (x := x2 - 1) (by omega) (by omega)]
          unfold zgx
          rw [if_neg (by omega)]
        · simp [h0]
      rw [hp]
      generalize hq : l.getD x2.toNat default = q at *
      by_cases hd : zgx l x2 < q.V ∧ q.V ≤ 5 ∧ 1 ≤ q.N ∧ q.N ≤ 1125899906842624
      · obtain ⟨d1, d2, d3, d4⟩ := hd
        have hw : IntKind.i64.wrap (x2 + 1) = x2 + 1 := zl (by omega) (by omega)
        have hpv : zgx l (x2 + 1) = q.V := by unfold zgx; rw [if_neg (by omega), show x2 + 1 - 1 = x2 by omega, hq]
        refine .inl ⟨_, by rw [Tr.run_false (by simp; omega), Tr.run_leaf, hw], ⟨rfl, rfl, rfl, ?_, ?_, ?_, ?_⟩, ?_, ?_⟩
        · simp only []; omega
        · simp only []; omega
        · simp only []; rw [hpv]; omega
        · simp only []; rw [hpv]; intro _; omega
        · simp only []; omega
        · simp only []
          rw [hpv, show (x2 + 1).toNat = x2.toNat + 1 by omega]
          intro r hr
          rw [zx, decide_eq_true d1, decide_eq_true d2, decide_eq_true d3, decide_eq_true d4]
          simpa using hr
      · refine .inr ⟨_, by rw [Tr.run_true (by
          by_cases h0 : x2 > 0
          · have := h7 h0
            simp [h0]; omega
          · have : zgx l x2 = -1 := by unfold zgx; rw [if_pos (by omega)]
            simp [h0]; omega), Tr.run_leaf], ?_⟩
        refine ⟨rfl, ?_⟩
        rw [zx]
        simp only [Bool.and_eq_false_iff, decide_eq_false_iff_not]
        omega
    · refine .inr ⟨_, by rw [Tr.run_false (by simpa using hc), Tr.run_leaf], ?_⟩
      rw [List.drop_eq_nil_of_le (by omega)]; rfl
theorem zwv {l : List Power} (hl : l.length ≤ 9223372036854775807) : zdu l = some (zx 1 (-1) l) := by
  obtain ⟨r, h1, h2⟩ := zam2 hl
  rw [zdu, zma]
  cases r with
  | inl b => rw [Tr.run_inl h1, Tr.run_leaf, h2.1, h2.2]
  | inr x => rw [Tr.run_inr h1, Tr.run_leaf, h2]
theorem zawg {p : za} {a : Asked} (h : a.P.Set.length * 16 ≤ 140737488351232 ∧ a.P.Done.length * 8 ≤ 140737488351232) : zki a p = some (!zw6 p a, p) := by
  rw [zki, zhs, Tr.run_guard (by
    intro h0
    simp only [Bool.or_eq_false_iff, decide_eq_false_iff_not] at h0
    exact ⟨⟨by omega, by omega⟩, trivial⟩), Tr.run_guard (fun _ => ⟨by rw [z0r h.1 h.2]; rfl, trivial⟩), Tr.run_leaf, z0r h.1 h.2]
  congr 2
  unfold zw6
  simp only [Option.getD_some]
  have e1 : decide (a.C < 0) = !decide (0 ≤ a.C) := by rw [← decide_not]; congr 1; exact propext ⟨fun h => by omega, fun h => by omega⟩
  have e2 : decide (a.C ≥ 2) = !decide (a.C < 2) := by rw [← decide_not]; congr 1; exact propext ⟨fun h => by omega, fun h => by omega⟩
  rw [e1, e2]
  simp only [Bool.not_and, Bool.not_not]
  rfl
theorem zarl {l : List Asked} {p : za} (hl : l.length ≤ 9223372036854775807) (hp : ∀ a, a ∈ l → a.P.Set.length * 16 ≤ 140737488351232 ∧ a.P.Done.length * 8 ≤ 140737488351232) :
    zcd l p = some (!l.all (zw6 p), p) := by
  obtain ⟨r, h1, h2⟩ := zg7 (F := fun s : (List Asked) × Int × Int × za => (zaa s.1 s.2.1 s.2.2.1 s.2.2.2).run) l.length
    (fun i (_ : Unit) => (l, (l.length : Int), (i : Int), p)) (fun i _ => True) (fun i _ r => match r with | .inl k => (0 ≤ k.1 ∧ k.2 = p) ∧ (l.drop i).all (zw6 p) = false | .inr q => q = p ∧ (l.drop i).all (zw6 p) = true) (by
      intro t _
      refine ⟨.inr p, ?_, rfl, ?_⟩
      · simp only [zaa]; rw [Tr.run_false (by simp), Tr.run_leaf]
      · rw [List.drop_length]; rfl) (by
      intro i t hi _
      have hs := zbm (l := l) (k := i) hi default
      have hm := zjb (l := l) (k := i) hi default
      simp only [zaa, Int.toNat_natCast]
      rw [Tr.run_true (by simpa using hi), Tr.run_guard ⟨by omega, by show (i : Int) < (l.length : Nat); omega⟩, Tr.run_bind (zawg (hp _ hm)), hs]
      simp only [List.all_cons]
      obtain ⟨b, hb⟩ : ∃ b, b = zw6 p (l.getD i default) := ⟨_, rfl⟩
      rw [← hb]
      cases b with
      | true =>
        refine .inl ⟨(), ?_, trivial, ?_⟩
        · rw [Tr.run_false (show (!true) = false from rfl), Tr.run_leaf, zz (by omega)]
        · intro r hr
          cases r with
          | inl x => exact ⟨hr.1, by rw [hr.2]; rfl⟩
          | inr x => rw [Bool.true_and]; exact hr
      | false =>
        refine .inr ⟨.inl (i, p), ?_, ⟨by simp only []; omega, rfl⟩, by rfl⟩
        rw [Tr.run_true (show (!false) = true from rfl), Tr.run_leaf]) 0 () (by omega) trivial
  have h1 : zd1 l l.length 0 p = some r := h1
  rw [zcd, zba]
  cases r with
  | inl k =>
    simp only [List.drop_zero] at h2
    rw [Tr.run_bind (v := k) (by rw [zci, zaj, Tr.run_inl h1, Tr.run_leaf]), Tr.run_leaf, h2.2, h2.1.2]
    simp [h2.1.1]
  | inr k =>
    simp only [List.drop_zero] at h2
    rw [Tr.run_bind (v := (-1, k)) (by rw [zci, zaj, Tr.run_inr h1, Tr.run_leaf]), Tr.run_leaf, h2.2, h2.1]
    rfl
theorem za5q (x y b c d e : Bool) : (((((x && y) || !b) || !c) || !d) || !e) = !(!(x && y) && b && c && d && e) := by
  cases x <;> cases y <;> cases b <;> cases c <;> cases d <;> cases e <;> rfl
theorem zabi {p : za} (hf : FitPr 140737488351232 p) {c : Nat} (hc : c < 2) :
    (zdc p.Links c p).run = some (if okLk p c = true then .inl (p.Links, ((c + 1 : Nat) : Int), p) else .inr (.inl false)) := by
  simp only [zdc]
  have ht := hf.told c
  have hd := hf.done c
  rw [Tr.run_true (by simp; omega), Tr.run_guard ⟨by omega, by omega⟩, Tr.run_guard (fun _ => ⟨by rw [zwv (by omega)]; rfl, trivial⟩), Tr.run_guard (fun _ => ⟨by rw [z1g]; rfl, trivial⟩), zwv (by omega), z1g]
  simp only [Option.getD_some]
  have e : ((((((p.Links.On.get (c : Int)) && (p.Links.Gone.get (c : Int))) || (decide ((p.Links.Base.get (c : Int)) < 0))) || (decide ((p.Links.Base.get (c : Int)) > p.Height))) || (!zx 1 (-1) (p.Links.Told.get (c : Int)))) || (!decide (zer (zi0 p.Links c)))) =
      !(!(p.Links.On.get (c : Int) && p.Links.Gone.get (c : Int)) && decide (0 ≤ p.Links.Base.get (c : Int)) && decide (p.Links.Base.get (c : Int) ≤ p.Height) && zx 1 (-1) (p.Links.Told.get (c : Int)) && decide (zer (zi0 p.Links c))) := by
    have e1 : decide (p.Links.Base.get (c : Int) < 0) = !decide (0 ≤ p.Links.Base.get (c : Int)) := by rw [← decide_not]; congr 1; exact propext ⟨fun h => by omega, fun h => by omega⟩
    have e2 : decide (p.Links.Base.get (c : Int) > p.Height) = !decide (p.Links.Base.get (c : Int) ≤ p.Height) := by rw [← decide_not]; congr 1; exact propext ⟨fun h => by omega, fun h => by omega⟩
    rw [e1, e2]
    exact za5q _ _ _ _ _ _
  rw [show zi0 p.Links (c : Int) = (⟨p.Links.Said.get (c : Int), p.Links.Due.get (c : Int), p.Links.Got.get (c : Int), p.Links.Closed.get (c : Int)⟩ : zes) from rfl] at e
  rw [e]
  unfold okLk
  rw [show zi0 p.Links (c : Int) = (⟨p.Links.Said.get (c : Int), p.Links.Due.get (c : Int), p.Links.Got.get (c : Int), p.Links.Closed.get (c : Int)⟩ : zes) from rfl]
  generalize (!(p.Links.On.get (c : Int) && p.Links.Gone.get (c : Int)) && decide (0 ≤ p.Links.Base.get (c : Int)) && decide (p.Links.Base.get (c : Int) ≤ p.Height) && zx 1 (-1) (p.Links.Told.get (c : Int)) && decide (zer (⟨p.Links.Said.get (c : Int), p.Links.Due.get (c : Int), p.Links.Got.get (c : Int), p.Links.Closed.get (c : Int)⟩ : zes))) = b
  cases b with
  | false => rw [Tr.run_true (show (!false) = true from rfl), Tr.run_leaf]; rfl
  | true =>
    rw [Tr.run_false (show (!true) = false from rfl)]
    obtain ⟨r, h1, h2⟩ := zajy (L := p.Links) (c := (c : Int)) (p := p) (k := ⟨p.Links.On.get c, p.Links.Gone.get c, p.Links.Base.get c, p.Links.Told.get c, p.Links.Fresh.get c, p.Links.Done.get c, ⟨p.Links.Said.get c, p.Links.Due.get c, p.Links.Got.get c, p.Links.Closed.get c⟩, ⟨p.Links.SHeight.get c, p.Links.STime.get c, p.Links.SSaid.get c, p.Links.SGot.get c⟩⟩)
      (l := p.Links.Done.get c) rfl (by omega)
    cases r with
    | inl b => rw [Tr.run_inl h1, Tr.run_leaf, h2.1, h2.2]; rfl
    | inr x => rw [Tr.run_inr h1, Tr.run_leaf, h2.1, h2.2, zz (by omega)]; rfl
theorem zg9 {p : za} (hf : FitPr 140737488351232 p) : zay p = some (zat p) := by
  have hs := hf.set
  have hq := hf.queue
  have loop : zjj p.Links 0 p = some (if okLk p 0 = true then (if okLk p 1 = true then .inr p else .inl false) else .inl false) := by
    rw [zjj]
    have t0 := zabi hf (c := 0) (by omega)
    have t1 := zabi hf (c := 1) (by omega)
    simp only [Int.ofNat_zero, Nat.zero_add, Int.ofNat_one] at t0 t1
    by_cases h0 : okLk p 0 = true
    · rw [if_pos h0] at t0 ⊢
      rw [zdw (s' := (p.Links, ((1 : Nat) : Int), p)) t0]
      by_cases h1 : okLk p 1 = true
      · rw [if_pos h1] at t1 ⊢
        rw [zdw (s' := (p.Links, ((2 : Nat) : Int), p)) t1, zgc (r := .inr p) (by
          show (zdc p.Links 2 p).run = _
          simp only [zdc]
          rw [Tr.run_false (by simp), Tr.run_leaf])]
      · rw [if_neg h1] at t1 ⊢
        rw [zgc (r := .inl false) t1]
    · rw [if_neg h0] at t0 ⊢
      rw [zgc (r := .inl false) t0]
  rw [zay, zkj, Tr.run_bind (zq6 p.Stake), Tr.run_guard (fun _ => ⟨by rw [zwv (by omega)]; rfl, trivial⟩), zwv (by omega)]
  simp only [Option.getD_some]
  have e : ((((((!decide (GoodS p.Stake)) || (decide (p.Height < 0))) || (decide (p.Height ≥ 1099511627776))) || (decide (p.Time < 0))) || (decide (p.Time > 1099511627776))) || (!zx 1 (-1) p.Set)) = !(decide (GoodS p.Stake) && decide (z2l p) && zx 1 (-1) p.Set) := by
    rw [Bool.eq_iff_iff]
    simp only [Bool.or_eq_true, Bool.not_eq_true', decide_eq_false_iff_not, decide_eq_true_eq, Bool.and_eq_false_iff]
    unfold z2l
    constructor
    · rintro (((((h | h) | h) | h) | h) | h)
      · exact .inl (.inl h)
      · exact .inl (.inr (by omega))
      · exact .inl (.inr (by omega))
      · exact .inl (.inr (by omega))
      · exact .inl (.inr (by omega))
      · exact .inr h
    · rintro ((h | h) | h)
      · exact .inl (.inl (.inl (.inl (.inl h))))
      · rcases (show p.Height < 0 ∨ p.Height ≥ 1099511627776 ∨ p.Time < 0 ∨ p.Time > 1099511627776 by omega) with k | k | k | k
        · exact .inl (.inl (.inl (.inl (.inr k))))
        · exact .inl (.inl (.inl (.inr k)))
        · exact .inl (.inl (.inr k))
        · exact .inl (.inr k)
      · exact .inr h
  rw [e]
  unfold zat
  generalize (decide (GoodS p.Stake) && decide (z2l p) && zx 1 (-1) p.Set) = b
  cases b with
  | false => rw [Tr.run_true (show (!false) = true from rfl), Tr.run_leaf]; rfl
  | true =>
    rw [Tr.run_false (show (!true) = false from rfl)]
    by_cases h0 : okLk p 0 = true
    · rw [if_pos h0] at loop
      by_cases h1 : okLk p 1 = true
      · rw [if_pos h1] at loop
        rw [Tr.run_inr loop, Tr.run_bind (zarl (by omega) hf.ps), Tr.run_leaf, h0, h1]
        simp
      · rw [if_neg h1] at loop
        rw [Tr.run_inl loop, Tr.run_leaf, h0, Bool.eq_false_iff.2 h1]
        rfl
    · rw [if_neg h0] at loop
      rw [Tr.run_inl loop, Tr.run_leaf, Bool.eq_false_iff.2 h0]
      rfl
end Go.Proofs.YtmakmlnfbdablaaGreat.Ab
namespace Go.Proofs.YtmakmlnfbdablaaGreat.Ab
open Go Go.RowKit
set_option linter.unusedVariables false
set_option linter.unusedSimpArgs false
structure za5r (p : za) : Prop where
  waits : p.Stake.Waits.length ≤ 9223372036854775807
  set : p.Set.length ≤ 9223372036854775807
  told : ∀ c, (p.Links.Told.get c).length ≤ 9223372036854775807
  done : ∀ c, (p.Links.Done.get c).length ≤ 9223372036854775807
  said : ∀ c, (p.Links.Said.get c).length ≤ 9223372036854775807
  due : ∀ c, (p.Links.Due.get c).length ≤ 9223372036854775807
  queue : p.Queue.length ≤ 9223372036854775807
  ps : ∀ a, a ∈ p.Queue → a.P.Set.length ≤ 9223372036854775807 ∧ a.P.Done.length ≤ 9223372036854775807
theorem FitPr.len {R : Nat} {p : za} (h : FitPr R p) (hR : R ≤ 9223372036854775807) : za5r p :=
  ⟨by have := h.waits; omega, by have := h.set; omega, fun c => by have := h.told c; omega, fun c => by have := h.done c; omega, fun c => by have := h.said c; omega, fun c => by have := h.due c; omega, by have := h.queue; omega,
    fun a ha => by have := h.ps a ha; omega⟩
end Go.Proofs.YtmakmlnfbdablaaGreat.Ab
namespace Go.Proofs.YtmakmlnfbdablaaGreat.Ab
open Go Go.RowKit
set_option linter.unusedVariables false
set_option linter.unusedSimpArgs false
theorem z0x {α : Type} {t e : Tr α} : (Tr.ite (!true) t e).run = e.run := Tr.run_false (show (!true) = false from rfl)
theorem z0y {α : Type} {t e : Tr α} : (Tr.ite (!false) t e).run = t.run := Tr.run_true (show (!false) = true from rfl)
def newM (x t : Int) : Meter := ⟨if x < 5 then 1 else x / 5, IntKind.i64.wrap (t + 10)⟩
def zagu (m : Meter) (x t : Int) : Meter := if m.Next ≤ t then newM x t else m
def zadj (m : Meter) (n : Int) : Meter × Bool := if m.Left ≤ 0 then (m, false) else (⟨IntKind.i64.wrap (m.Left - n), m.Next⟩, true)
theorem zajz {x t : Int} (hx : i64 x) : zqh x t = some (newM x t) := by
  have h : zj1 x = some (if x < 5 then 1 else x / 5) := by
    rw [zj1, zhi, Tr.run_guard (by decide), Tr.run_leaf]
    unfold i64 at hx
    by_cases h5 : x < 5
    · have : Int.tdiv x 5 < 1 := by
        by_cases h0 : 0 ≤ x
        · rw [Int.tdiv_eq_ediv_of_nonneg h0]; omega
        · have : Int.tdiv x 5 ≤ 0 := by
            have h1 : Int.tdiv (-x) 5 = - Int.tdiv x 5 := Int.neg_tdiv x 5
            rw [Int.tdiv_eq_ediv_of_nonneg (by omega)] at h1
            omega
          omega
      have hl : -9223372036854775808 ≤ Int.tdiv x 5 := by
        by_cases h0 : 0 ≤ x
        · rw [Int.tdiv_eq_ediv_of_nonneg h0]; omega
        · have h1 : Int.tdiv (-x) 5 = - Int.tdiv x 5 := Int.neg_tdiv x 5
          rw [Int.tdiv_eq_ediv_of_nonneg (by omega)] at h1
          omega
      rw [zl (by omega) (by omega), if_neg (by omega), if_pos h5]
    · rw [Int.tdiv_eq_ediv_of_nonneg (by omega), zl (by omega) (by omega), if_neg h5]
      split
      · rfl
      · congr 1; omega
  rw [zqh, zs9, Tr.run_bind h, Tr.run_leaf]; rfl
theorem zafb {m : Meter} {x t : Int} (hx : i64 x) : zod m x t = some (zagu m x t) := by
  rw [zod, zqi]
  unfold zagu
  by_cases h : m.Next ≤ t
  · rw [Tr.run_true (by simpa using h), Tr.run_bind (zajz hx), Tr.run_leaf, if_pos h]
  · rw [Tr.run_false (by simpa using h), Tr.run_leaf, if_neg h]
theorem zafc {m : Meter} {n : Int} : zhj m n = some (zadj m n) := by
  rw [zhj, zqj]
  unfold zadj
  by_cases h : m.Left ≤ 0
  · rw [Tr.run_true (by simpa using h), Tr.run_leaf, if_pos h]
  · rw [Tr.run_false (by simpa using h), Tr.run_leaf, if_neg h]
def zabj : za := ⟨0, 0, newS, [], default, newM 0 0, []⟩
theorem zagv : zpi = some zabj := by
  rw [zpi, zl9, Tr.run_bind zadc, Tr.run_bind (zajz (by unfold i64; omega)), Tr.run_leaf]; rfl
def zgi (p : za) (d v n : Int) : za × Int :=
  if zat p = true then (if (zdj p.Stake d v n).2 ≠ 0 then (p, (zdj p.Stake d v n).2) else ({ p with Stake := (zdj p.Stake d v n).1 }, 0)) else (p, 2)
theorem z5j {p : za} (hf : FitPr 140737488351232 p) {d v n : Int} (hn : n ≤ 9223372036854775807) : zib p d v n = some (zgi p d v n) := by
  rw [zib, zfv, Tr.run_bind (zg9 hf)]
  unfold zgi
  by_cases hg : zat p = true
  · rw [hg, z0x, if_pos rfl, Tr.run_bind (zac6 hn)]
    by_cases h0 : (zdj p.Stake d v n).2 ≠ 0
    · rw [Tr.run_true (by simpa using h0), Tr.run_leaf, if_pos h0]
    · rw [Tr.run_false (by simpa using h0), Tr.run_leaf, if_neg h0]
  · rw [Bool.eq_false_iff.2 hg, z0y, Tr.run_leaf]; rfl
def zabk (p : za) (now : Int) : Wait := ⟨0, 0, 0, 0, p.Height + 1, now + 20, if p.Links.On.x0 = true then p.Height + 1 else 0, if p.Links.On.x1 = true then p.Height + 1 else 0⟩
def zafd (L : Links) : Links := { L with Fresh := ⟨L.Fresh.x0 || L.On.x0, L.Fresh.x1 || L.On.x1⟩ }
def zha (p : za) (d v k now : Int) : za × Int :=
  if zat p = true ∧ 0 ≤ now ∧ now ≤ 1099511627776 then
    (if (zck p.Stake d v k (zabk p now)).2 ≠ 0 then (p, (zck p.Stake d v k (zabk p now)).2) else ({ p with Stake := (zck p.Stake d v k (zabk p now)).1, Links := zafd p.Links }, 0))
  else (p, 2)
theorem zjn {p : za} (h : zat p = true) : GoodS p.Stake ∧ z2l p ∧ zx 1 (-1) p.Set = true ∧ okLk p 0 = true ∧ okLk p 1 = true ∧ p.Queue.all (zw6 p) = true := by
  unfold zat at h
  simp only [Bool.and_eq_true, decide_eq_true_eq] at h
  exact ⟨h.1.1.1.1.1, h.1.1.1.1.2, h.1.1.1.2, h.1.1.2, h.1.2, h.2⟩
theorem z7o {p : za} {now : Int} : (((!zat p) || (decide (now < 0))) || (decide (now > 1099511627776))) = !decide (zat p = true ∧ 0 ≤ now ∧ now ≤ 1099511627776) := by
  rw [Bool.eq_iff_iff]
  simp only [Bool.or_eq_true, Bool.not_eq_true', decide_eq_true_eq, decide_eq_false_iff_not]
  cases zat p <;> simp <;> omega
theorem z1p {p : za} (hf : FitPr 140737488351232 p) {d v k now : Int} (hk : k ≤ 9223372036854775807) : zbh p d v k now = some (zha p d v k now) := by
  rw [zbh, zeg, Tr.run_bind (zg9 hf)]
  unfold zha
  by_cases hg : zat p = true ∧ 0 ≤ now ∧ now ≤ 1099511627776
  · rw [if_pos hg]
    obtain ⟨g1, g2, -⟩ := zjn hg.1
    unfold z2l at g2
    have turn : ∀ (c : Nat), c < 2 → ∀ (q : za) (w : Wait), (zau d v k c p q w).run = some (.inl (d, v, k, ((c + 1 : Nat) : Int), p, q, if p.Links.On.get c = true then { w with h0 := if (c : Int) = 0 then p.Height + 1 else w.h0, h1 := if (c : Int) = 1 then p.Height + 1 else w.h1 } else w)) := by
      intro c hc q w
      simp only [zau]
      rw [Tr.run_true (by simp; omega), Tr.run_guard ⟨by omega, by omega⟩]
      by_cases ho : p.Links.On.get c = true
      · rw [Tr.run_true ho, Tr.run_guard ⟨by omega, by omega⟩, Tr.run_leaf, zz (by omega), if_pos ho, zl (by omega) (by omega)]
      · rw [Tr.run_false (Bool.eq_false_iff.2 ho), Tr.run_leaf, zz (by omega), if_neg ho]
    have hw : zep d v k 0 p default ⟨0, 0, 0, 0, p.Height + 1, now + 20, 0, 0⟩ = some (d, v, k, p, default, zabk p now) := by
      rw [zep, zdw (s' := (d, v, k, ((1 : Nat) : Int), p, _, _)) (turn 0 (by omega) _ _), zdw (s' := (d, v, k, ((2 : Nat) : Int), p, _, _)) (turn 1 (by omega) _ _), zgc (by
        show (zau d v k 2 p _ _).run = _
        simp only [zau]
        rw [Tr.run_false (by simp), Tr.run_leaf])]
      have e0 : p.Links.On.get ((0 : Nat) : Int) = p.Links.On.x0 := rfl
      have e1 : p.Links.On.get ((1 : Nat) : Int) = p.Links.On.x1 := rfl
      rw [e0, e1]
      unfold zabk
      cases p.Links.On.x0 <;> cases p.Links.On.x1 <;> rfl
    rw [Tr.run_false (by rw [z7o, decide_eq_true hg]; rfl), zl (x := p.Height + 1) (by omega) (by omega), zl (x := now + 20) (by omega) (by omega), Tr.run_bind hw]
    simp only []
    rw [Tr.run_bind (z9h hk)]
    by_cases h0 : (zck p.Stake d v k (zabk p now)).2 ≠ 0
    · rw [Tr.run_true (by simpa using h0), Tr.run_leaf, if_pos h0]
    · rw [Tr.run_false (by simpa using h0), if_neg h0]
      have turn2 : ∀ (c : Nat), c < 2 → ∀ (p q : za), (zav c p q).run = some (.inl (((c + 1 : Nat) : Int), { p with Links := { p.Links with Fresh := p.Links.Fresh.set c (p.Links.Fresh.get c || p.Links.On.get c) } }, q)) := by
        intro c hc p q
        simp only [zav]
        rw [Tr.run_true (by simp; omega), Tr.run_guard ⟨by omega, by omega⟩, Tr.run_guard (fun _ => ⟨⟨by omega, by omega⟩, trivial⟩), Tr.run_guard ⟨by omega, by omega⟩, Tr.run_leaf, zz (by omega)]
      rw [Tr.run_bind (v := ({ p with Stake := (zck p.Stake d v k (zabk p now)).1, Links := zafd p.Links }, default)) (by
        rw [ziu, zdw (s' := (((1 : Nat) : Int), _, _)) (turn2 0 (by omega) _ _), zdw (s' := (((2 : Nat) : Int), _, _)) (turn2 1 (by omega) _ _), zgc (by
          show (zav 2 _ _).run = _
          simp only [zav]
          rw [Tr.run_false (by simp), Tr.run_leaf])]
        rfl), Tr.run_leaf]
  · rw [if_neg hg, Tr.run_true (by rw [z7o, decide_eq_false hg]; rfl), Tr.run_leaf]
end Go.Proofs.YtmakmlnfbdablaaGreat.Ab
namespace Go.Proofs.YtmakmlnfbdablaaGreat.Ab
open Go Go.RowKit
set_option linter.unusedVariables false
set_option linter.unusedSimpArgs false
theorem z0z : ∀ {l : List Int} {p : Int}, zak p l = true → (∀ q, q ∈ l → p < q ∧ q ≤ 5) ∧ l.Pairwise (· < ·)
  | [], p, h => ⟨by simp, .nil⟩
  | q :: l, p, h => by
    simp only [zak, Bool.and_eq_true, decide_eq_true_eq] at h
    obtain ⟨h1, h2⟩ := z0z h.2
    refine ⟨fun x hx => ?_, List.pairwise_cons.2 ⟨fun x hx => (h1 x hx).1, h2⟩⟩
    rcases List.mem_cons.1 hx with rfl | hx
    · exact h.1
    · have := h1 x hx; omega
theorem zabl : ∀ {l : List Int} {p : Int}, (∀ q, q ∈ l → p < q ∧ q ≤ 5) → l.Pairwise (· < ·) → zak p l = true
  | [], p, _, _ => rfl
  | q :: l, p, h1, h2 => by
    have hq := h1 q (List.mem_cons_self ..)
    rw [List.pairwise_cons] at h2
    simp only [zak, Bool.and_eq_true, decide_eq_true_eq]
    exact ⟨hq, zabl (fun x hx => ⟨h2.1 x hx, (h1 x (List.mem_cons_of_mem _ hx)).2⟩) h2.2⟩
theorem zadk : ∀ {l m : List Int}, l.Pairwise (· < ·) → m.Pairwise (· < ·) → (∀ p, p ∈ l ↔ p ∈ m) → l = m
  | [], [], _, _, _ => rfl
  | [], b :: m, _, _, h => by have := (h b).2 (List.mem_cons_self ..); cases this
  | a :: l, [], _, _, h => by have := (h a).1 (List.mem_cons_self ..); cases this
  | a :: l, b :: m, hl, hm, h => by
    rw [List.pairwise_cons] at hl hm
    have hab : a = b := by
      rcases List.mem_cons.1 ((h a).1 (List.mem_cons_self ..)) with h1 | h1
      · exact h1
      · rcases List.mem_cons.1 ((h b).2 (List.mem_cons_self ..)) with h2 | h2
        · exact h2.symm
        · have k1 := hm.1 a h1
          have k2 := hl.1 b h2
          omega
    subst hab
    congr 1
    refine zadk hl.2 hm.2 fun p => ⟨fun hp => ?_, fun hp => ?_⟩
    · rcases List.mem_cons.1 ((h p).1 (List.mem_cons_of_mem _ hp)) with h1 | h1
      · have := hl.1 p hp; omega
      · exact h1
    · rcases List.mem_cons.1 ((h p).2 (List.mem_cons_of_mem _ hp)) with h1 | h1
      · have := hm.1 p hp; omega
      · exact h1
theorem zarm (a b : Int) : zpm a b = some (decide (a < b)) := by
  have h : ∀ x, zga x = some false := fun x => by rw [zga, zkm, Tr.run_leaf]; simp
  rw [zpm, zmb, Tr.run_bind (h a), Tr.run_guard (fun e => by cases e), Tr.run_leaf]
  simp
theorem zafe (x : Int) : zbq x = some false := by rw [zbq, zgu, Tr.run_leaf]; simp
theorem zadl {l : List Int} (h : l.Pairwise (· < ·)) {x y : Nat} (hxy : x < y) (hy : y < l.length) : l.getD x 0 < l.getD y 0 := by
  have := List.pairwise_iff_getElem.1 h x y (by omega) hy hxy
  rw [List.getD_eq_getElem?_getD, List.getD_eq_getElem?_getD, List.getElem?_eq_getElem hy, List.getElem?_eq_getElem (show x < l.length by omega)]
  exact this
def zabm (l : List Int) (v k : Int) : Prop := 0 ≤ k ∧ k ≤ l.length ∧ (∀ x : Nat, (x : Int) < k → l.getD x 0 < v) ∧ (∀ x : Nat, k ≤ x → x < l.length → v ≤ l.getD x 0)
theorem zaj0 {l : List Int} (hs : l.Pairwise (· < ·)) (hl : l.length ≤ 1000) (v : Int) :
    ∃ k, zgb l v l.length 0 l.length = some (l, v, (l.length : Int), k) ∧ zabm l v k := by
  have := zs1 (F := fun s : (List Int) × Int × Int × Int × Int => (zbr s.1 s.2.1 s.2.2.1 s.2.2.2.1 s.2.2.2.2).run)
    (fun s => s.1 = l ∧ s.2.1 = v ∧ s.2.2.1 = l.length ∧ (0 ≤ s.2.2.2.1 ∧ s.2.2.2.1 ≤ s.2.2.2.2 ∧ s.2.2.2.2 ≤ l.length) ∧ (∀ x : Nat, (x : Int) < s.2.2.2.1 → l.getD x 0 < v) ∧ (∀ x : Nat, s.2.2.2.2 ≤ x → x < l.length → v ≤ l.getD x 0))
    (fun s => (s.2.2.2.2 - s.2.2.2.1).toNat) (fun s r => ∃ k, r = (l, v, (l.length : Int), k) ∧ zabm l v k) ?_ (l, v, (l.length : Int), 0, (l.length : Int)) ⟨rfl, rfl, rfl, ⟨by simp, by simp, by simp⟩, by intro x hx; simp only [] at hx; omega, by intro x hx h2; simp only [] at hx; omega⟩
  · obtain ⟨r, h1, k, rfl, h3⟩ := this
    exact ⟨k, h1, h3⟩
  · rintro ⟨x0, x1, x2, i, j⟩ ⟨h1, h2, h3, ⟨h4, h5, h6⟩, h7, h8⟩
    simp only at h1 h2 h3 h4 h5 h6 h7 h8
    rw [h1, h2, h3] at *
    simp only [zbr]
    by_cases hc : i < j
    · have hm : IntKind.i64.wrap (Int.fdiv (IntKind.u64.wrap (IntKind.i64.wrap (i + j))) (2 ^ 1)) = (i + j) / 2 := by
        rw [zl (x := i + j) (by omega) (by omega), zaix (by omega) (by omega), Int.fdiv_eq_ediv_of_nonneg _ (by decide), zl (by omega) (by omega)]
        rfl
      rw [hm]
      generalize hmm : (i + j) / 2 = m
      have m1 : i ≤ m := by omega
      have m2 : m < j := by omega
      rw [Tr.run_true (by simpa using hc), Tr.run_guard (by decide), Tr.run_guard ⟨by omega, by show m < (l.length : Nat); omega⟩, Tr.run_bind (zarm _ _)]
      by_cases hlt : l.getD m.toNat 0 < v
      · refine .inl ⟨(l, v, (l.length : Int), m + 1, j), by rw [Tr.run_true (by simpa using hlt), Tr.run_leaf, zl (by omega) (by omega)], ⟨rfl, rfl, rfl, ⟨by simp only []; omega, by simp only []; omega, by simp only []; omega⟩, ?_, h8⟩, by simp only []; omega, fun r hr => hr⟩
        intro x hx
        simp only [] at hx
        by_cases hxm : x = m.toNat
        · rw [hxm]; exact hlt
        · have := zadl hs (x := x) (y := m.toNat) (by omega) (by omega)
          omega
      · refine .inl ⟨(l, v, (l.length : Int), i, m), by rw [Tr.run_false (by simpa using hlt), Tr.run_leaf], ⟨rfl, rfl, rfl, ⟨by simp only []; omega, by simp only []; omega, by simp only []; omega⟩, h7, ?_⟩, by simp only []; omega, fun r hr => hr⟩
        intro x hx hx2
        simp only [] at hx
        by_cases hxm : x = m.toNat
        · rw [hxm]; omega
        · have := zadl hs (x := m.toNat) (y := x) (by omega) hx2
          omega
    · refine .inr ⟨(l, v, (l.length : Int), i), by rw [Tr.run_false (by simpa using hc), Tr.run_leaf], i, rfl, h4, by omega, h7, fun x hx => h8 x (by omega)⟩
theorem zaj1 {l : List Int} (hs : l.Pairwise (· < ·)) (hl : l.length ≤ 1000) (v : Int) : ∃ k, zp l v = some (k, decide (v ∈ l)) ∧ zabm l v k := by
  obtain ⟨k, h1, h2⟩ := zaj0 hs hl v
  refine ⟨k, ?_, h2⟩
  obtain ⟨k0, k1, k2, k3⟩ := h2
  have hin : decide (k < (l.length : Int)) = true → (0 : Int) ≤ k ∧ k < ((Sl.len (.ints l) : Nat) : Int) := fun h => ⟨k0, by simpa [Sl.len] using h⟩
  rw [zp, zco, Tr.run_bind h1]
  simp only []
  rw [Tr.run_guard (fun h => ⟨hin h, trivial⟩), Tr.run_guard (fun _ h => ⟨hin h, trivial⟩), Tr.run_guard (fun _ _ => ⟨by rw [zafe]; rfl, trivial⟩), Tr.run_guard (fun _ _ _ => ⟨by rw [zafe]; rfl, trivial⟩), Tr.run_leaf, zafe, zafe]
  simp only [Option.getD_some, Bool.and_false, Bool.or_false]
  congr 2
  rw [Bool.eq_iff_iff]
  simp only [Bool.and_eq_true, decide_eq_true_eq, beq_iff_eq]
  constructor
  · rintro ⟨hk, he⟩
    rw [← he]
    exact zjb (by omega) 0
  · intro hv
    obtain ⟨x, hx, he⟩ := List.getElem_of_mem hv
    have hg : l.getD x 0 = v := by rw [List.getD_eq_getElem?_getD, List.getElem?_eq_getElem hx]; exact he
    have hkx : k ≤ x := by
      rcases Int.lt_or_le (x : Int) k with h | h
      · have := k2 x h; omega
      · exact h
    refine ⟨by omega, ?_⟩
    have h3 := k3 k.toNat (by omega) (by omega)
    by_cases hxk : x = k.toNat
    · rw [← hxk]; exact hg
    · have := zadl hs (x := k.toNat) (y := x) (by omega) hx
      omega
def insD (l : List Int) (v : Int) : List Int := ((List.range 6).map (fun (u : Nat) => (u : Int))).filter (fun u => u == v || decide (u ∈ l))
theorem range_pw : ((List.range 6).map (fun (u : Nat) => (u : Int))).Pairwise (· < ·) := by decide
theorem zadm (l : List Int) (v : Int) : (insD l v).Pairwise (· < ·) := range_pw.sublist List.filter_sublist
theorem zagw {u : Int} : u ∈ (List.range 6).map (fun (u : Nat) => (u : Int)) ↔ 0 ≤ u ∧ u ≤ 5 := by
  rw [List.mem_map]
  constructor
  · rintro ⟨x, hx, rfl⟩; rw [List.mem_range] at hx; omega
  · intro h; exact ⟨u.toNat, by rw [List.mem_range]; omega, by omega⟩
theorem mem_insD {l : List Int} {v u : Int} : u ∈ insD l v ↔ (0 ≤ u ∧ u ≤ 5) ∧ (u = v ∨ u ∈ l) := by
  unfold insD; rw [List.mem_filter, zagw]; simp
theorem zaj3 (l : List Int) (v : Int) : zak (-1) (insD l v) = true := zabl (fun q hq => by have := (mem_insD.1 hq).1; omega) (zadm l v)
theorem zarn {l : List Int} {v : Int} (h : zak (-1) l = true) (hv : v ∈ l) : insD l v = l := by
  obtain ⟨h1, h2⟩ := z0z h
  refine zadk (zadm l v) h2 fun u => ?_
  rw [mem_insD]
  constructor
  · rintro ⟨_, rfl | h⟩ <;> assumption
  · intro hu; have := h1 u hu; exact ⟨by omega, .inr hu⟩
theorem zam3 {l : List Int} {v k : Int} (h : zak (-1) l = true) (hv : v ∉ l) (hv5 : 0 ≤ v ∧ v ≤ 5) (hk : zabm l v k) : l.take k.toNat ++ [v] ++ l.drop k.toNat = insD l v := by
  obtain ⟨h1, h2⟩ := z0z h
  obtain ⟨k0, k1, k2, k3⟩ := hk
  have htake : ∀ x, x ∈ l.take k.toNat → x < v := by
    intro x hx
    obtain ⟨i, hi, rfl⟩ := List.getElem_of_mem hx
    rw [List.length_take] at hi
    have := k2 i (by omega)
    rw [List.getD_eq_getElem?_getD, List.getElem?_eq_getElem (by omega)] at this
    rw [List.getElem_take]; exact this
  have hdrop : ∀ x, x ∈ l.drop k.toNat → v < x := by
    intro x hx
    have hm : x ∈ l := List.mem_of_mem_drop hx
    obtain ⟨i, hi, rfl⟩ := List.getElem_of_mem hx
    rw [List.length_drop] at hi
    have := k3 (k.toNat + i) (by omega) (by omega)
    rw [List.getD_eq_getElem?_getD, List.getElem?_eq_getElem (by omega)] at this
    rw [List.getElem_drop] at hm ⊢
    have hne : l[k.toNat + i] ≠ v := fun e => hv (e ▸ hm)
    have h3 : v ≤ l[k.toNat + i] := this
    omega
  refine zadk ?_ (zadm l v) fun u => ?_
  · rw [List.append_assoc, List.pairwise_append]
    refine ⟨h2.sublist (List.take_sublist _ _), ?_, ?_⟩
    · rw [List.singleton_append, List.pairwise_cons]
      exact ⟨hdrop, h2.sublist (List.drop_sublist _ _)⟩
    · intro a ha b hb
      rw [List.singleton_append] at hb
      rcases List.mem_cons.1 hb with rfl | hb
      · exact htake a ha
      · have := htake a ha; have := hdrop b hb; omega
  · rw [mem_insD, List.append_assoc, List.mem_append, List.singleton_append, List.mem_cons]
    constructor
    · rintro (hu | rfl | hu)
      · have hm := List.mem_of_mem_take hu
        have := h1 u hm
        exact ⟨by omega, .inr hm⟩
      · exact ⟨hv5, .inl rfl⟩
      · have hm := List.mem_of_mem_drop hu
        have := h1 u hm
        exact ⟨by omega, .inr hm⟩
    · rintro ⟨_, rfl | hu⟩
      · exact .inr (.inl rfl)
      · rw [← List.take_append_drop k.toNat l, List.mem_append] at hu
        exact hu.imp id .inr
end Go.Proofs.YtmakmlnfbdablaaGreat.Ab
namespace Go.Proofs.YtmakmlnfbdablaaGreat.Ab
open Go Go.RowKit
set_option linter.unusedVariables false
set_option linter.unusedSimpArgs false
def z1q (p : za) (v : Int) : Int := if (IntKind.i64.wrap (Int.tdiv (p.Stake.Validators.Tokens.get v) 100)) > 1 then (IntKind.i64.wrap (Int.tdiv (p.Stake.Validators.Tokens.get v) 100)) else 1
def zaj4 (p : za) (c v : Int) : za := { p with Links := { p.Links with Done := p.Links.Done.set c (insD (p.Links.Done.get c) v) } }
def za5s (p : za) (a : Asked) : Int := if (p.Links.Base.get a.C) > a.P.Id then (p.Links.Base.get a.C) else a.P.Id
def z9q (p : za) (a : Asked) : za × Bool :=
  if a.P.Kind = 2 then ({ p with Stake := zq7 p.Stake a.C a.P.Id }, true)
  else if a.P.Kind = 4 then (if p.Stake.Validators.Dead.get a.P.V = true then (p, true) else ({ p with Stake := (zdo (ziz p.Stake a.P.V (za5s p a) 50).1 a.P.V 2).1 }, true))
  else if p.Stake.Validators.Jailed.get a.P.V = true then (zaj4 p a.C a.P.V, true)
  else if (zadj p.Meter (z1q p a.P.V)).2 = true then (zaj4 { p with Stake := (zdo p.Stake a.P.V 0).1, Meter := (zadj p.Meter (z1q p a.P.V)).1 } a.C a.P.V, true)
  else (p, false)
structure zaj5 (p : za) (a : Asked) : Prop where
  v : 0 ≤ a.P.V ∧ a.P.V ≤ 5
  c : 0 ≤ a.C ∧ a.C < 2
  k : a.P.Kind = 2 ∨ a.P.Kind = 3 ∨ a.P.Kind = 4
  w : p.Stake.Waits.length * 64 ≤ 140737488351232
  d : zak (-1) (p.Links.Done.get a.C) = true
theorem zpv {α : Type} (a : A2 α) {c : Int} (hc : 0 ≤ c ∧ c < 2) : a.set c (a.get c) = a := by
  rcases (show c = 0 ∨ c = 1 by omega) with rfl | rfl <;> rfl
theorem z3c {l : List Int} (h : zak (-1) l = true) : l.length ≤ 6 := by
  have := zwr h (by omega); omega
theorem zaj6 {p : za} {a : Asked} (hf : zaj5 p a) (hv : a.P.V ∈ p.Links.Done.get a.C) : zaj4 p a.C a.P.V = p := by
  unfold zaj4
  rw [zarn hf.d hv, zpv _ hf.c]
theorem zaj7 {l : List Int} {k v : Int} (hl : l.length ≤ 6) (hk : zabm l v k) : zb5 l k [v] = some (l.take k.toNat ++ [v] ++ l.drop k.toNat) := by
  unfold zb5 insP
  rw [if_pos ⟨hk.1, hk.2.1, by simp, by simp; omega⟩]
theorem zaro {p : za} {a : Asked} (hf : zaj5 p a) : znh a p = some ((z9q p a).2, (z9q p a).1) := by
  obtain ⟨hv, hc, hk, hw, hd⟩ := hf
  have hl := z3c hd
  obtain ⟨pk, hs, hpl⟩ := zaj1 (z0z hd).2 (by omega) a.P.V
  have hcl := zaaw (l := p.Links.Done.get a.C) (by omega)
  have hin := zaj7 hl hpl
  have hmem : (!decide (a.P.V ∈ p.Links.Done.get a.C)) = true → (p.Links.Done.get a.C).take pk.toNat ++ [a.P.V] ++ (p.Links.Done.get a.C).drop pk.toNat = insD (p.Links.Done.get a.C) a.P.V := by
    intro h
    exact zam3 hd (by simpa using h) hv hpl
  rw [znh, zkn, Tr.run_guard ⟨by omega, by omega⟩, Tr.run_guard hc]
  unfold z9q
  by_cases k2 : a.P.Kind = 2
  · rw [Tr.run_true (by simpa using k2), Tr.run_guard (by rw [z1k hw]; rfl), Tr.run_leaf, z1k hw, if_pos k2]; rfl
  · rw [Tr.run_false (by simpa using k2), if_neg k2]
    by_cases k4 : a.P.Kind = 4
    · rw [if_pos k4, Tr.run_false (by rw [k4]; decide), Tr.run_true (by simpa using k4)]
      by_cases hdd : p.Stake.Validators.Dead.get a.P.V = true
      · rw [if_pos hdd, hdd, z0x, Tr.run_leaf]
      · rw [if_neg hdd, Bool.eq_false_iff.2 hdd, z0y, Tr.run_guard (by rw [z9l]; rfl), z9l]
        simp only [Option.getD_some]
        rw [Tr.run_guard (by rw [zac8]; rfl), Tr.run_leaf, zac8]; rfl
    · have k3 : a.P.Kind = 3 := by omega
      rw [if_neg k4, Tr.run_true (by simpa using k3)]
      by_cases hj : p.Stake.Validators.Jailed.get a.P.V = true
      · rw [if_pos hj, hj, z0x, Tr.run_guard (by rw [hs]; rfl), hs]
        simp only [Option.getD_some]
        by_cases hm : a.P.V ∈ p.Links.Done.get a.C
        · rw [decide_eq_true hm, z0x, Tr.run_leaf, zaj6 ⟨hv, hc, hk, hw, hd⟩ hm]
        · rw [decide_eq_false hm, z0y, Tr.run_guard (by rw [hcl]; rfl), hcl]
          simp only [Option.getD_some]
          rw [Tr.run_guard (by rw [hin]; rfl), Tr.run_leaf, hin, Option.getD_some, hmem (by simpa using hm)]
          rfl
      · rw [if_neg hj, Bool.eq_false_iff.2 hj, z0y, Tr.run_guard (by decide), Tr.run_guard (by rw [zafc]; rfl), zafc]
        simp only [Option.getD_some]
        rw [show (if (IntKind.i64.wrap (Int.tdiv (p.Stake.Validators.Tokens.get a.P.V) 100)) > 1 then (IntKind.i64.wrap (Int.tdiv (p.Stake.Validators.Tokens.get a.P.V) 100)) else 1) = z1q p a.P.V from rfl]
        by_cases ht : (zadj p.Meter (z1q p a.P.V)).2 = true
        · rw [if_pos ht, ht, z0x, Tr.run_guard (by rw [zajg]; rfl), Tr.run_guard (by rw [hs]; rfl), hs, zajg]
          simp only [Option.getD_some]
          by_cases hm : a.P.V ∈ p.Links.Done.get a.C
          · rw [decide_eq_true hm, z0x, Tr.run_leaf]
            have := zaj6 (p := { p with Stake := (zdo p.Stake a.P.V 0).1, Meter := (zadj p.Meter (z1q p a.P.V)).1 }) (a := a) ⟨hv, hc, hk, by show (zdo p.Stake a.P.V 0).1.Waits.length * 64 ≤ _; rw [zaba]; exact hw, hd⟩ hm
            rw [this]
          · rw [decide_eq_false hm, z0y, Tr.run_guard (by rw [hcl]; rfl), hcl]
            simp only [Option.getD_some]
            rw [Tr.run_guard (by rw [hin]; rfl), Tr.run_leaf, hin, Option.getD_some, hmem (by simpa using hm)]
            rfl
        · rw [if_neg ht, Bool.eq_false_iff.2 ht, z0y, Tr.run_leaf]
end Go.Proofs.YtmakmlnfbdablaaGreat.Ab
namespace Go.Proofs.YtmakmlnfbdablaaGreat.Ab
open Go Go.RowKit
set_option linter.unusedVariables false
set_option linter.unusedSimpArgs false
def upP (p : za) (S : Stake) (D : A2 (List Int)) (M : Meter) : za := { p with Stake := S, Links := { p.Links with Done := D }, Meter := M }
def DealI (p0 p : za) : Prop := ∃ S D M, p = upP p0 S D M ∧ GoodS S ∧ zak (-1) D.x0 = true ∧ zak (-1) D.x1 = true
theorem DealI.get {p0 p : za} (h : DealI p0 p) {c : Int} : zak (-1) (p.Links.Done.get c) = true := by
  obtain ⟨S, D, M, rfl, _, h0, h1⟩ := h
  show zak (-1) (D.get c) = true
  unfold A2.get; split <;> assumption
theorem DealI.good {p0 p : za} (h : DealI p0 p) : GoodS p.Stake := by obtain ⟨S, D, M, rfl, h, _⟩ := h; exact h
theorem zaj8 {p0 : za} {S : Stake} {D : A2 (List Int)} {M : Meter} {c v : Int} (h0 : zak (-1) D.x0 = true) (h1 : zak (-1) D.x1 = true) : ∃ D', zaj4 (upP p0 S D M) c v = upP p0 S D' M ∧ zak (-1) D'.x0 = true ∧ zak (-1) D'.x1 = true := by
  refine ⟨D.set c (insD (D.get c) v), rfl, ?_, ?_⟩
  · show zak (-1) (if c = 0 then insD (D.get c) v else D.x0) = true
    split
    · exact zaj3 _ _
    · exact h0
  · show zak (-1) (if c = 1 then insD (D.get c) v else D.x1) = true
    split
    · exact zaj3 _ _
    · exact h1
theorem zwd {s : Stake} (hg : GoodS s) (v h f : Int) : GoodS (ziz s v h f).1 := (zagp hg v h f).1
theorem zts {s : Stake} (hg : GoodS s) (v : Int) {what : Int} (hw : what = 0 ∨ what = 1 ∨ what = 2) : GoodS (zdo s v what).1 := (zago hg v hw).1
theorem zaff {p0 p : za} (h : DealI p0 p) (a : Asked) : DealI p0 (z9q p a).1 := by
  obtain ⟨S, D, M, rfl, hS, h0, h1⟩ := h
  unfold z9q
  split
  · exact ⟨zq7 S a.C a.P.Id, D, M, rfl, z2k hS, h0, h1⟩
  · split
    · split
      · exact ⟨S, D, M, rfl, hS, h0, h1⟩
      · exact ⟨_, D, M, rfl, zts (zwd hS _ _ _) _ (.inr (.inr rfl)), h0, h1⟩
    · split
      · obtain ⟨D', e, k0, k1⟩ := zaj8 (p0 := p0) (S := S) (M := M) (c := a.C) (v := a.P.V) h0 h1
        exact ⟨S, D', M, e, hS, k0, k1⟩
      · split
        · obtain ⟨D', e, k0, k1⟩ := zaj8 (p0 := p0) (S := (zdo S a.P.V 0).1) (M := (zadj M (z1q (upP p0 S D M) a.P.V)).1) (c := a.C) (v := a.P.V) h0 h1
          exact ⟨_, D', _, e, zts hS _ (.inl rfl), k0, k1⟩
        · exact ⟨S, D, M, rfl, hS, h0, h1⟩
def z9r (t : za × A2 Bool × List Asked) (a : Asked) : za × A2 Bool × List Asked :=
  if t.2.1.get a.C = true then (t.1, t.2.1.set a.C true, t.2.2 ++ [a])
  else if (z9q t.1 a).2 = true then ((z9q t.1 a).1, t.2.1, t.2.2)
  else ((z9q t.1 a).1, t.2.1.set a.C true, t.2.2 ++ [a])
def zadn (p0 : za) (i : Nat) (t : za × A2 Bool × List Asked) : Prop :=
  DealI p0 t.1 ∧ t.2.2.length ≤ i ∧ (∀ c : Int, 0 ≤ c ∧ c < 2 → t.2.1.get c = t.2.2.any (fun b => b.C == c)) ∧ ∀ b, b ∈ t.2.2 → b ∈ p0.Queue
theorem zap {α : Type} (a : A2 α) {i j : Int} (y : α) (hi : 0 ≤ i ∧ i < 2) (hj : 0 ≤ j ∧ j < 2) : (a.set i y).get j = if j = i then y else a.get j := by
  rcases (show i = 0 ∨ i = 1 by omega) with rfl | rfl <;> rcases (show j = 0 ∨ j = 1 by omega) with rfl | rfl <;> rfl
theorem zafg {p0 : za} {i : Nat} {t : za × A2 Bool × List Asked} (h : zadn p0 i t) {a : Asked} (hc : 0 ≤ a.C ∧ a.C < 2) (ha : a ∈ p0.Queue) : zadn p0 (i + 1) (z9r t a) := by
  obtain ⟨h1, h2, h3, h4⟩ := h
  have more : ∀ p, DealI p0 p → zadn p0 (i + 1) (p, t.2.1.set a.C true, t.2.2 ++ [a]) := by
    intro p hp
    refine ⟨hp, by simp; omega, fun c hcc => ?_, fun b hb => ?_⟩
    · show (t.2.1.set a.C true).get c = (t.2.2 ++ [a]).any (fun b => b.C == c)
      rw [zap _ _ hc hcc, List.any_append]
      by_cases e : c = a.C
      · rw [if_pos e]; simp [e]
      · rw [if_neg e, h3 c hcc]; simp [Ne.symm e]
    · rcases List.mem_append.1 hb with hb | hb
      · exact h4 b hb
      · rw [List.mem_singleton.1 hb]; exact ha
  unfold z9r
  split
  · exact more _ h1
  · split
    · exact ⟨zaff h1 a, by simp only []; omega, h3, h4⟩
    · exact more _ (zaff h1 a)
theorem zarp {p0 p : za} (hp : DealI p0 p) {q : za} {a : Asked} (ha : zw6 q a = true) : zaj5 p a := by
  unfold zw6 at ha
  simp only [Bool.and_eq_true, decide_eq_true_eq, beq_iff_eq, Bool.not_eq_true', beq_eq_false_iff_ne] at ha
  obtain ⟨⟨⟨⟨c0, c1⟩, _⟩, hg⟩, hk⟩ := ha
  have hf := zov hg
  exact ⟨⟨hf.2.2.2.2.1, hf.2.2.2.2.2.1⟩, ⟨c0, c1⟩, by omega, hp.good.fit, hp.get⟩
theorem zam4 {p0 : za} {q : za} {now : Int} {d : za} {l : List Asked} {p : za} (hp : DealI p0 p) (hl : l.length * 88 ≤ 140737488351232) (ha : ∀ a, a ∈ l → zw6 q a = true ∧ a ∈ p0.Queue) :
    zgv now l l.length 0 p d ⟨false, false⟩ [] = some (now, (l.foldl z9r (p, ⟨false, false⟩, [])).1, d, (l.foldl z9r (p, ⟨false, false⟩, [])).2.2) := by
  rw [zgv]
  have := zkz (F := fun s : Int × (List Asked) × Int × Int × za × za × (A2 Bool) × (List Asked) => (zfd s.1 s.2.1 s.2.2.1 s.2.2.2.1 s.2.2.2.2.1 s.2.2.2.2.2.1 s.2.2.2.2.2.2.1 s.2.2.2.2.2.2.2).run) l default
    (fun i (t : za × A2 Bool × List Asked) => (now, l, (l.length : Int), (i : Int), t.1, d, t.2.1, t.2.2)) (zadn p0) z9r (fun t => (now, t.1, d, t.2.2)) (by
      intro t _
      simp only [zfd]
      rw [Tr.run_false (by simp), Tr.run_leaf]) (by
      intro i t hi hI
      obtain ⟨a1, a2⟩ := ha _ (zjb (l := l) (k := i) hi default)
      have hfit := zarp hI.1 a1
      refine ⟨?_, zafg hI hfit.c a2⟩
      have hlen := hI.2.1
      simp only [zfd, Int.toNat_natCast]
      rw [Tr.run_true (by simpa using hi), Tr.run_guard ⟨by omega, by show (i : Int) < (l.length : Nat); omega⟩, Tr.run_guard hfit.c]
      unfold z9r
      by_cases hw : t.2.1.get (l.getD i default).C = true
      · rw [if_pos hw, Tr.run_true hw, Tr.run_true (show true = true from rfl), Tr.run_true (show true = true from rfl), Tr.run_true (show true = true from rfl)]
        rw [Tr.run_guard hfit.c, Tr.run_guard (by show (t.2.2.length + 1) * 88 ≤ _; omega), Tr.run_leaf, zz (by omega)]
      · rw [if_neg hw, Tr.run_false (Bool.eq_false_iff.2 hw), Tr.run_bind (zaro hfit)]
        simp only []
        by_cases hd : (z9q t.1 (l.getD i default)).2 = true
        · rw [if_pos hd, Tr.run_false (by rw [hd]; rfl), Tr.run_leaf, zz (by omega)]
        · rw [if_neg hd, Tr.run_true (by rw [Bool.eq_false_iff.2 hd]; rfl), Tr.run_guard hfit.c, Tr.run_guard (by show (t.2.2.length + 1) * 88 ≤ _; omega), Tr.run_leaf, zz (by omega)]) (p, ⟨false, false⟩, []) ⟨hp, by simp, fun c hc => by rcases (show c = 0 ∨ c = 1 by omega) with rfl | rfl <;> rfl, fun b hb => by cases hb⟩
  exact this
end Go.Proofs.YtmakmlnfbdablaaGreat.Ab
namespace Go.Proofs.YtmakmlnfbdablaaGreat.Ab
open Go Go.RowKit
set_option linter.unusedVariables false
set_option linter.unusedSimpArgs false
def dOf (p : za) (c : Int) : List Power := zx1 (fP (p.Links.Told.get c)) (fP p.Set)
def pkOf (p : za) (c : Int) : Packet := ⟨1, p.Height, 0, 0, dOf p c, p.Links.Done.get c⟩
def zp2 (p : za) (c now : Int) : zes × Int := z88 (zi0 p.Links c) (zg8 (pkOf p c)).1 (now + 40)
def zam5 (p : za) (c now : Int) : za :=
  { p with Links := { p.Links with Told := p.Links.Told.set c p.Set, Fresh := p.Links.Fresh.set c false, Done := p.Links.Done.set c [], Said := p.Links.Said.set c (zp2 p c now).1.Said, Due := p.Links.Due.set c (zp2 p c now).1.Due, Got := p.Links.Got.set c (zp2 p c now).1.Got, Closed := p.Links.Closed.set c (zp2 p c now).1.Closed } }
def z2m (p : za) (c : Int) : Prop := p.Links.On.get c = false ∨ (dOf p c = [] ∧ p.Links.Done.get c = [] ∧ p.Links.Fresh.get c = false)
instance (p : za) (c : Int) : Decidable (z2m p c) := by
  have : Decidable (dOf p c = []) := decidable_of_iff ((dOf p c).length = 0) List.length_eq_zero_iff
  have : Decidable (p.Links.Done.get c = []) := decidable_of_iff ((p.Links.Done.get c).length = 0) List.length_eq_zero_iff
  exact inferInstanceAs (Decidable (_ ∨ _))
def zek (p : za) (c now : Int) : za :=
  if z2m p c then p else if (zg8 (pkOf p c)).2 ≠ 0 then p else if (zp2 p c now).2 ≠ 0 then p else zam5 p c now
structure z9s (p : za) (c : Int) : Prop where
  t : (p.Links.Told.get c).length ≤ 9223372036854775807
  s : p.Set.length ≤ 6
  d : (p.Links.Done.get c).length ≤ 6
  u : (p.Links.Due.get c).length ≤ 9223372036854775807
theorem quiet_iff {p : za} {c : Int} : z2m p c ↔ p.Links.On.get c = false ∨ ((dOf p c).length = 0 ∧ (p.Links.Done.get c).length = 0 ∧ p.Links.Fresh.get c = false) := by
  unfold z2m; rw [List.length_eq_zero_iff, List.length_eq_zero_iff]
theorem zyt {l : List Power} (h : l.length ≤ 6) : zah l = some l := by
  rw [zah, zcf]
  refine Tr.run_split (fun h0 => ?_) (fun _ => ?_) (.inr trivial)
  · rw [Tr.run_leaf, List.length_eq_zero_iff.1 h0]
  · rw [Tr.run_guard (by simp only [zbp, List.length_nil]; omega), Tr.run_leaf]
theorem zaj9 {p : za} {c now : Int} (hf : z9s p c) (hc : 0 ≤ c ∧ c < 2) (hn : 0 ≤ now ∧ now ≤ 1099511627776) : zi7 c now p = some (zek p c now) := by
  obtain ⟨ft, fs, fd, fu⟩ := hf
  have hdl : (dOf p c).length ≤ 6 := zagc _ _
  have hD : zed (p.Links.Told.get c) p.Set = some (dOf p c) := zamp ft (by omega)
  have hE : zbi (⟨1, p.Height, 0, 0, dOf p c, p.Links.Done.get c⟩ : Packet) = some (zg8 (pkOf p c)) := z43 (by show (dOf p c).length * 16 ≤ _; omega) (by show (p.Links.Done.get c).length * 8 ≤ _; omega)
  rw [zi7, zkl, Tr.run_guard hc, Tr.run_guard (by rw [hD]; rfl), hD]
  simp only [Option.getD_some]
  unfold zek
  by_cases hq : z2m p c
  · rw [if_pos hq, Tr.run_true (by
      rw [quiet_iff] at hq
      simp only [Bool.or_eq_true, Bool.and_eq_true, Bool.not_eq_true', beq_iff_eq]
      rcases hq with h | ⟨h1, h2, h3⟩
      · exact .inl h
      · exact .inr ⟨⟨by omega, h3⟩, by omega⟩), Tr.run_leaf]
  · rw [if_neg hq, Tr.run_false (by
      rw [Bool.eq_false_iff]
      intro h
      simp only [Bool.or_eq_true, Bool.and_eq_true, Bool.not_eq_true', beq_iff_eq] at h
      refine hq (quiet_iff.2 ?_)
      rcases h with h | ⟨⟨h1, h2⟩, h3⟩
      · exact .inl h
      · exact .inr ⟨by omega, by omega, h2⟩), Tr.run_guard (by rw [hE]; rfl), hE]
    simp only [Option.getD_some]
    by_cases he : (zg8 (pkOf p c)).2 ≠ 0
    · rw [if_pos he, Tr.run_true (by simpa using he), Tr.run_leaf]
    · rw [if_neg he, Tr.run_false (by simpa using he), zl (x := now + 40) (by omega) (by omega), Tr.run_bind (zaod _ _ _)]
      by_cases hs : (zp2 p c now).2 ≠ 0
      · rw [if_pos hs, Tr.run_true (by simpa [zp2] using hs), Tr.run_leaf]
      · rw [if_neg hs, Tr.run_false (by simpa [zp2] using hs), Tr.run_guard (by rw [zyt fs]; rfl), Tr.run_leaf, zyt fs]
        rfl
def zx3 (p : za) (now : Int) : za := { p with Height := p.Height + 1, Time := now, Meter := zagu p.Meter (allP p.Set) now }
def zgw (p : za) (now : Int) : za × A2 Bool × List Asked := p.Queue.foldl z9r (zx3 p now, ⟨false, false⟩, [])
def zop (p : za) (now : Int) : za :=
  { (zgw p now).1 with Stake := (z7h (zgw p now).1.Stake now).1, Set := setS (z7h (zgw p now).1.Stake now).1, Queue := (zgw p now).2.2 }
def zpw (p : za) (now : Int) : za × List Int × Int :=
  if zat p = true ∧ p.Time ≤ now ∧ now ≤ 1099511627776 then (zek (zek (zop p now) 0 now) 1 now, (z7h (zgw p now).1.Stake now).2.1, 0) else (p, [], 2)
theorem zafh (l : List Power) : i64 (allP l) := by
  have : ∀ (l : List Power) (t : Int), i64 t → i64 (l.foldl (fun t p => IntKind.i64.wrap (t + p.N)) t) := by
    intro l
    induction l with
    | nil => intro t ht; exact ht
    | cons q l ih => intro t _; exact ih _ (by show i64 (IntKind.i64.wrap (t + q.N)); rw [IntKind.wrap_i64]; unfold i64; omega)
  exact this l 0 (by unfold i64; omega)
theorem zabn {p : za} {now : Int} (hg : zat p = true) : DealI (zx3 p now) (zx3 p now) := by
  obtain ⟨g1, _, _, k0, k1, _⟩ := zjn hg
  unfold okLk at k0 k1
  simp only [Bool.and_eq_true] at k0 k1
  exact ⟨p.Stake, p.Links.Done, zagu p.Meter (allP p.Set) now, rfl, g1, k0.2, k1.2⟩
theorem zafi {p0 : za} : ∀ (l : List Asked) (i : Nat) (t : za × A2 Bool × List Asked), zadn p0 i t → (∀ a, a ∈ l → (0 ≤ a.C ∧ a.C < 2) ∧ a ∈ p0.Queue) → zadn p0 (i + l.length) (l.foldl z9r t)
  | [], i, t, h, _ => h
  | a :: l, i, t, h, ha => by
    have := zafi l (i + 1) (z9r t a) (zafg h (ha a (List.mem_cons_self ..)).1 (ha a (List.mem_cons_self ..)).2) (fun b hb => ha b (List.mem_cons_of_mem _ hb))
    rw [List.foldl_cons, List.length_cons, show i + (l.length + 1) = i + 1 + l.length by omega]
    exact this
theorem zaka {p : za} (hg : zat p = true) : ∀ a, a ∈ p.Queue → zw6 p a = true ∧ (0 ≤ a.C ∧ a.C < 2) := by
  intro a ha
  have h := List.all_eq_true.1 (zjn hg).2.2.2.2.2 a ha
  refine ⟨h, ?_⟩
  unfold zw6 at h
  simp only [Bool.and_eq_true, decide_eq_true_eq] at h
  exact h.1.1.1
theorem z5k {p : za} {now : Int} (hg : zat p = true) : zadn (zx3 p now) p.Queue.length (zgw p now) := by
  have := zafi (p0 := zx3 p now) p.Queue 0 (zx3 p now, ⟨false, false⟩, []) ⟨zabn hg, by simp, fun c hc => by rcases (show c = 0 ∨ c = 1 by omega) with rfl | rfl <;> rfl, fun b hb => by cases hb⟩ (fun a ha => ⟨(zaka hg a ha).2, ha⟩)
  rwa [Nat.zero_add] at this
theorem zafj {p : za} (hf : FitPr 140737488351232 p) {now : Int} (hg : zat p = true) (c : Int) : z9s (zop p now) c := by
  have hq := z5k (now := now) hg
  obtain ⟨S, D, M, e, hS, d0, d1⟩ := hq.1
  have ht := hf.told c
  have hu := hf.due c
  refine ⟨?_, z4v _, ?_, ?_⟩
  · show ((zgw p now).1.Links.Told.get c).length ≤ _
    rw [e]; show (p.Links.Told.get c).length ≤ _; omega
  · show ((zgw p now).1.Links.Done.get c).length ≤ 6
    exact z3c hq.1.get
  · show ((zgw p now).1.Links.Due.get c).length ≤ _
    rw [e]; show (p.Links.Due.get c).length ≤ _; omega
theorem zam6 {p : za} {now : Int} (h : z9s p 1) : z9s (zek p 0 now) 1 := by
  unfold zek
  split
  · exact h
  · split
    · exact h
    · split
      · exact h
      · exact ⟨h.t, h.s, h.d, h.u⟩
theorem zafk {p : za} {now : Int} : (((!zat p) || (decide (now < p.Time))) || (decide (now > 1099511627776))) = !decide (zat p = true ∧ p.Time ≤ now ∧ now ≤ 1099511627776) := by
  rw [Bool.eq_iff_iff]
  simp only [Bool.or_eq_true, Bool.not_eq_true', decide_eq_true_eq, decide_eq_false_iff_not]
  cases zat p <;> simp <;> omega
theorem zagx {p : za} (hf : FitPr 140737488351232 p) {now : Int} : zcu p now = some (zpw p now) := by
  have hset := hf.set
  rw [zcu, zmc, Tr.run_bind (zg9 hf)]
  unfold zpw
  by_cases hg : zat p = true ∧ p.Time ≤ now ∧ now ≤ 1099511627776
  · obtain ⟨hg1, hg2⟩ := hg
    have hnum := (zjn hg1).2.1
    unfold z2l at hnum
    rw [if_pos ⟨hg1, hg2⟩, Tr.run_false (by rw [zafk, decide_eq_true ⟨hg1, hg2⟩]; rfl), Tr.run_guard (by rw [zaog (by omega)]; rfl), zaog (by omega)]
    simp only [Option.getD_some]
    rw [Tr.run_guard (by rw [zafb (zafh _)]; rfl), zafb (zafh _), zl (x := p.Height + 1) (by omega) (by omega)]
    simp only [Option.getD_some]
    have hloop := zam4 (p0 := zx3 p now) (q := p) (now := now) (d := default) (l := p.Queue) (p := zx3 p now) (zabn hg1) hf.queue (fun a ha => ⟨(zaka hg1 a ha).1, ha⟩)
    have hinv := z5k (now := now) hg1
    have hgs : GoodS (zgw p now).1.Stake := hinv.1.good
    have hpay := zae6 hgs now
    have hz : (z7h (zgw p now).1.Stake now).2.2 = 0 := by rw [zajr hgs]
    rw [Tr.run_bind (show zgv now p.Queue ((p.Queue.length : Nat) : Int) 0 (⟨p.Height + 1, now, p.Stake, p.Set, p.Links, zagu p.Meter (allP p.Set) now, p.Queue⟩ : za) default ⟨false, false⟩ [] = some (now, (zgw p now).1, default, (zgw p now).2.2) from hloop)]
    simp only []
    rw [Tr.run_bind (show zqo (zgw p now).1.Stake now = _ from zav8), Tr.run_false (by rw [hz]; rfl), Tr.run_bind (zawb hpay)]
    have h0 := zaj9 (now := now) (zafj hf (now := now) hg1 0) (by omega) (by omega)
    have h1 := zaj9 (now := now) (zam6 (now := now) (zafj hf (now := now) hg1 1)) (by omega) (by omega)
    rw [Tr.run_bind (v := ((z7h (zgw p now).1.Stake now).2.1, zek (zek (zop p now) 0 now) 1 now, default)) (by
      show zko now (z7h (zgw p now).1.Stake now).2.1 0 (zop p now) default = _
      rw [zko, zdw (s' := (now, (z7h (zgw p now).1.Stake now).2.1, ((1 : Nat) : Int), zek (zop p now) 0 now, default)) (by
          simp only [zfe]
          rw [Tr.run_true (by simp), Tr.run_bind h0, Tr.run_leaf]; rfl),
        zdw (s' := (now, (z7h (zgw p now).1.Stake now).2.1, ((2 : Nat) : Int), zek (zek (zop p now) 0 now) 1 now, default)) (by
          simp only [zfe]
          rw [Tr.run_true (by simp)]
          rw [Tr.run_bind (show zi7 ((1 : Nat) : Int) now _ = _ from h1), Tr.run_leaf]; rfl),
        zgc (by
          simp only [zfe]
          rw [Tr.run_false (by simp), Tr.run_leaf])]), Tr.run_leaf]
  · rw [if_neg hg, Tr.run_true (by rw [zafk, decide_eq_false hg]; rfl), Tr.run_leaf]
end Go.Proofs.YtmakmlnfbdablaaGreat.Ab
namespace Go.Proofs.YtmakmlnfbdablaaGreat.Ab
open Go Go.RowKit
set_option linter.unusedVariables false
set_option linter.unusedSimpArgs false
theorem z7p : zat zabj = true := by decide
theorem zafl {p : za} {c now : Int} (h : p.Links.On.get c = false) : zek p c now = p := by unfold zek; rw [if_pos (.inl h)]
end Go.Proofs.YtmakmlnfbdablaaGreat.Ab
namespace Go.Proofs.YtmakmlnfbdablaaGreat.Ab
open Go Go.RowKit
set_option linter.unusedVariables false
set_option linter.unusedSimpArgs false
theorem zfn (l : List Asked) : Sl.len (.asked l) = l.length := rfl
theorem zagy {s : Stake} (hg : GoodS s) {v h : Int} (hv : 0 ≤ v ∧ v < 6) : (ziz s v h 50).2.2 = 0 := by
  unfold ziz
  rw [if_neg (by rw [z7k hg (by omega) hv]; simp), if_neg (by omega)]
theorem zakb {s : Stake} (hg : GoodS s) {v : Int} (hv : 0 ≤ v ∧ v < 6) (hd : s.Validators.Dead.get v = false) : (zdo s v 2).2 = 0 := by
  unfold zdo
  rw [if_neg (by rw [z7k hg (by omega) hv]; simp), if_neg (by omega), if_neg (by rw [hd]; simp), if_neg (by omega)]
theorem zagz (s : Stake) (v h f : Int) : (ziz s v h f).1.Validators.Dead = s.Validators.Dead := by
  unfold ziz
  repeat' split
  all_goals rfl
def z5l (p : za) (v h : Int) : za × Int :=
  if zat p = false then (p, 2) else if 0 ≤ v ∧ v < 6 then (if 1 ≤ h ∧ h ≤ p.Height then (if p.Stake.Validators.Dead.get v = true then (p, 15) else ({ p with Stake := (zdo (ziz p.Stake v h 50).1 v 2).1 }, 0)) else (p, 2)) else (p, 4)
theorem z5m {p : za} (hf : FitPr 140737488351232 p) {v h : Int} : zid p v h = some (z5l p v h) := by
  rw [zid, zfx, Tr.run_bind (zg9 hf)]
  unfold z5l
  cases hg : zat p with
  | false => rw [z0y, Tr.run_leaf, if_pos rfl]
  | true =>
    rw [z0x, if_neg (by simp)]
    by_cases hv : 0 ≤ v ∧ v < 6
    · rw [Tr.run_false (by simp; omega), if_pos hv]
      by_cases hh : 1 ≤ h ∧ h ≤ p.Height
      · rw [Tr.run_false (by simp; omega), if_pos hh, Tr.run_guard hv]
        cases hd : p.Stake.Validators.Dead.get v with
        | true => rw [Tr.run_true rfl, Tr.run_leaf, if_pos rfl]
        | false =>
          have hs := (zjn hg).1
          rw [Tr.run_false rfl, if_neg (by simp), Tr.run_bind z9l, Tr.run_false (by rw [zagy hs hv]; rfl), Tr.run_bind zac8, Tr.run_false (by rw [zakb (zwd hs v h 50) hv (by rw [zagz]; exact hd)]; rfl), Tr.run_leaf]
      · rw [Tr.run_true (by simp; omega), Tr.run_leaf, if_neg hh]
    · rw [Tr.run_true (by simp; omega), Tr.run_leaf, if_neg hv]
def zss (p : za) (c : Int) (s : List UInt8) : za × Int :=
  if zat p = false then (p, 2) else if (0 ≤ c ∧ c < 2) ∧ p.Links.On.get c = true then (if (zbe s).2 ≠ 0 then (p, (zbe s).2) else if (zbe s).1.Kind = 1 then (p, 3) else ({ p with Queue := p.Queue ++ [⟨c, (zbe s).1⟩] }, 0)) else (p, 4)
theorem z7q {l : List Asked} (h : l.length * 88 ≤ 140737488351232) : zan l = some l := by
  rw [zan, zcz]
  refine Tr.run_split (fun h0 => ?_) (fun _ => ?_) (.inr trivial)
  · rw [Tr.run_leaf, List.length_eq_zero_iff.1 h0]
  · rw [Tr.run_guard (by simp only [zfn, List.length_nil]; omega), Tr.run_leaf]
theorem zado {p : za} (hf : FitPr 140737488351232 p) {c : Int} {a : ByteArray} (ha : a.size ≤ 140737488355328) : zaz p c a = some (zss p c a.data.toList) := by
  have e1 : ze4 a = some (zbe a.data.toList) := zaa1 (s := a.data.toList) (by have : a.data.toList.length = a.size := rfl; omega)
  have hq := hf.queue
  rw [zaz, zkk, Tr.run_bind e1, Tr.run_bind (zg9 hf)]
  simp only [z7q hf.queue, Option.isSome_some, Option.getD_some]
  unfold zss
  cases hg : zat p with
  | false => rw [z0y, Tr.run_leaf, if_pos rfl]
  | true =>
    rw [z0x, if_neg (by simp), Tr.run_guard (by
      intro h0
      simp only [Bool.or_eq_false_iff, decide_eq_false_iff_not] at h0
      exact ⟨by omega, trivial⟩)]
    by_cases hc : (0 ≤ c ∧ c < 2) ∧ p.Links.On.get c = true
    · rw [if_pos hc, Tr.run_false (by rw [hc.2]; simp; omega)]
      by_cases hd : (zbe a.data.toList).2 = 0
      · rw [Tr.run_false (by simpa using hd), if_neg (by simpa using hd)]
        by_cases hk : (zbe a.data.toList).1.Kind = 1
        · rw [Tr.run_true (by simpa using hk), if_pos hk, Tr.run_leaf]
        · rw [Tr.run_false (by simpa using hk), if_neg hk, Tr.run_guard (by trivial), Tr.run_guard (by simp only [zfn, List.length_singleton]; omega), Tr.run_leaf]
      · rw [Tr.run_true (by simpa using hd), if_pos hd, Tr.run_leaf]
    · rw [if_neg hc, Tr.run_true (by
        simp only [Bool.or_eq_true, decide_eq_true_eq, Bool.not_eq_true']
        by_cases h1 : 0 ≤ c ∧ c < 2
        · exact .inr (Bool.eq_false_iff.2 (fun h2 => hc ⟨h1, h2⟩))
        · exact .inl (by omega)), Tr.run_leaf]
theorem z5n {p : Packet} (h : zgd p = 0) : p.Set.length ≤ 6 ∧ p.Done.length ≤ 6 := by
  obtain ⟨_, _, _, _, _, _, _, _, g9, g10, _⟩ := zov h
  have l1 := zln g9 (by omega)
  exact ⟨by omega, z3c g10⟩
theorem zafm {s : List UInt8} (h : (zbe s).2 = 0) : zgd (zbe s).1 = 0 := by
  unfold zbe at h ⊢
  split
  · rename_i k; rw [if_pos k] at h; cases h
  · rename_i k
    rw [if_neg k] at h
    split
    · rename_i k2; rw [if_pos k2] at h; exact absurd h k2
    · rename_i k2; exact Classical.not_not.1 k2
end Go.Proofs.YtmakmlnfbdablaaGreat.Ab
namespace Go.Proofs.YtmakmlnfbdablaaGreat.Ab
open Go Go.RowKit
set_option linter.unusedVariables false
set_option linter.unusedSimpArgs false
def zia (L : Links) (c H : Int) (T : List Power) (f : Bool) : Links :=
  ⟨L.On.set c true, L.Gone.set c false, L.Base.set c H, L.Told.set c T, L.Fresh.set c f, L.Done.set c [], L.Said.set c [], L.Due.set c [], L.Got.set c 0, L.Closed.set c false, L.SHeight.set c 0, L.STime.set c 0, L.SSaid.set c 0, L.SGot.set c 0⟩
def zpx (p : za) (c : Int) (W : List Wait) (f : Bool) : za := { p with Stake := { p.Stake with Waits := W }, Links := zia p.Links c p.Height p.Set f }
def zjv (c H : Int) (w : Wait) : Wait := if H < w.Height then { w with h0 := if c = 0 then w.Height else w.h0, h1 := if c = 1 then w.Height else w.h1 } else w
def zyw (p : za) : Bool := p.Stake.Waits.any (fun w => decide (p.Height < w.Height))
def zf1 (p : za) (c : Int) : za × Int :=
  if zat p = false then (p, 2) else if 0 ≤ c ∧ c < 2 then (if p.Links.Gone.get c = true then (p, 11) else if p.Links.On.get c = true then (p, 5) else if p.Height < 1 ∨ p.Set.length = 0 then (p, 13)
    else (zpx p c (p.Stake.Waits.map (zjv c p.Height)) (zyw p), 0)) else (p, 4)
theorem zafn {α : Type} (q : α → Bool) : ∀ (l : List α) (b : Bool), l.foldl (fun t w => t || q w) b = (b || l.any q)
  | [], b => by simp
  | a :: l, b => by rw [List.foldl_cons, zafn q l, List.any_cons, Bool.or_assoc]
theorem zag0 {α : Type} (a : A2 α) (c : Int) (x y : α) : (a.set c x).set c y = a.set c y := by
  unfold A2.set
  by_cases h : c = 0
  · subst h; rfl
  · by_cases h1 : c = 1
    · subst h1; rfl
    · simp [h, h1]
theorem zawh {l W : List Wait} {i : Nat} {w : Wait} (hi : i < W.length) (hg : W.getD i default = w) : W.set i w = W := by rw [← hg, z9i hi]
theorem zag1 {p z : za} {c : Int} (hc : 0 ≤ c ∧ c < 2) (hw : p.Stake.Waits.length * 64 ≤ 140737488351232) :
    zic c p.Stake.Waits.length 0 (zpx p c p.Stake.Waits false) z = some (zpx p c (p.Stake.Waits.map (zjv c p.Height)) (zyw p), z) := by
  rw [zic]
  have := z9j (F := fun s : Int × Int × Int × za × za => (zdv s.1 s.2.1 s.2.2.1 s.2.2.2.1 s.2.2.2.2).run) p.Stake.Waits default
    (fun i W (f : Bool) => (c, (p.Stake.Waits.length : Int), (i : Int), zpx p c W f, z)) (fun _ _ => True) (zjv c p.Height) (fun t w => t || decide (p.Height < w.Height)) (fun W f => (zpx p c W f, z)) ?_ ?_ false trivial
  · rw [zafn] at this
    exact this
  · intro W t hW _
    simp only [zdv]; rw [Tr.run_false (by simp), Tr.run_leaf]
  · intro i W t hi hW hg _
    refine ⟨?_, trivial⟩
    simp only [zdv]
    rw [Int.toNat_natCast, show (zpx p c W t).Stake.Waits = W from rfl, hg, show (zpx p c W t).Height = p.Height from rfl]
    generalize hw' : p.Stake.Waits.getD i default = w at hg ⊢
    rw [Tr.run_true (by simpa using hi), Tr.run_guard ⟨by omega, by rw [zcc]; omega⟩]
    by_cases hp : p.Height < w.Height
    · rw [Tr.run_true (by simpa using hp), Tr.run_guard hc, Tr.run_guard hc, Tr.run_leaf, zz (by omega)]
      have e : zjv c p.Height w = { w with h0 := if c = 0 then w.Height else w.h0, h1 := if c = 1 then w.Height else w.h1 } := if_pos hp
      rw [e, decide_eq_true hp, Bool.or_true]
      rw [show (zpx p c W t).Links.Fresh = p.Links.Fresh.set c t from rfl, zag0]
      rfl
    · rw [Tr.run_false (by simpa using hp), Tr.run_leaf, zz (by omega)]
      have e : zjv c p.Height w = w := if_neg hp
      rw [e, decide_eq_false hp, Bool.or_false, zawh (l := W) (by omega) hg]
theorem zabo {p : za} (hf : FitPr 140737488351232 p) {c : Int} : zai p c = some (zf1 p c) := by
  rw [zai, zi6, Tr.run_bind (zg9 hf)]
  unfold zf1
  cases hg : zat p with
  | false => rw [z0y, Tr.run_leaf, if_pos rfl]
  | true =>
    rw [z0x, if_neg (by simp)]
    by_cases hc : 0 ≤ c ∧ c < 2
    · rw [Tr.run_false (by simp; omega), if_pos hc, Tr.run_guard hc]
      cases h1 : p.Links.Gone.get c with
      | true => rw [Tr.run_true rfl, Tr.run_leaf, if_pos rfl]
      | false =>
        rw [Tr.run_false rfl, if_neg (by simp), Tr.run_guard hc]
        cases h2 : p.Links.On.get c with
        | true => rw [Tr.run_true rfl, Tr.run_leaf, if_pos rfl]
        | false =>
          rw [Tr.run_false rfl, if_neg (by simp)]
          have hs := zln (zjn hg).2.2.1 (by omega)
          by_cases h3 : p.Height < 1 ∨ p.Set.length = 0
          · rw [if_pos h3, Tr.run_true (by simp only [Bool.or_eq_true, decide_eq_true_eq, beq_iff_eq]; omega), Tr.run_leaf]
          · have hcl := zyt (l := p.Set) (by omega)
            rw [if_neg h3, Tr.run_false (by simp only [Bool.or_eq_false_iff, decide_eq_false_iff_not, beq_eq_false_iff_ne]; omega), Tr.run_guard (by rw [hcl]; rfl), Tr.run_guard hc, Tr.run_bind (z0u hf.waits), hcl, Tr.run_bind (v := (zpx p c (p.Stake.Waits.map (zjv c p.Height)) (zyw p), default)) (by exact zag1 hc hf.waits), Tr.run_leaf]
    · rw [Tr.run_true (by simp; omega), Tr.run_leaf, if_neg hc]
def zww (L : Links) (c : Int) : Links := { L with On := L.On.set c false, Gone := L.Gone.set c true, Fresh := L.Fresh.set c false, Done := L.Done.set c [], Closed := L.Closed.set c true }
def z3d (c : Int) (a : Asked) : Bool := a.C != c
def z00 (p : za) (c : Int) : za := { p with Stake := zq7 p.Stake c 1099511627776, Links := zww p.Links c, Queue := p.Queue.filter (z3d c) }
def zwx (p : za) (c : Int) : za := if zat p = true ∧ (0 ≤ c ∧ c < 2) ∧ p.Links.On.get c = true then z00 p c else p
theorem zaoj (a : Asked) (c : Int) : zew a c = some (!z3d c a, c) := by
  rw [zew, zfw, Tr.run_leaf]
  unfold z3d
  simp [bne]
theorem zlq {α : Type} {l : List α} {i : Nat} (h : i < l.length) (d : α) : l.take (i + 1) = l.take i ++ [l.getD i d] := by
  rw [List.take_succ_eq_append_getElem h, zsn h]
theorem zag2 {l : List Asked} {c : Int} (hl : l.length * 88 ≤ 140737488351232) :
    ∃ r, zbu l.length 0 c l = some r ∧
      (match r with | .inl y => ∃ k : Nat, y = ((k : Int), c, l) ∧ k < l.length ∧ (l.take k).all (z3d c) = true ∧ z3d c (l.getD k default) = false | .inr y => y = (c, l) ∧ l.all (z3d c) = true) := by
  rw [zbu]
  have := zg7 (F := fun s : Int × Int × Int × (List Asked) => (zab s.1 s.2.1 s.2.2.1 s.2.2.2).run) l.length (fun i (_ : Unit) => ((l.length : Int), (i : Int), c, l)) (fun i _ => (l.take i).all (z3d c) = true)
    (fun i _ r => match r with | .inl y => ∃ k : Nat, y = ((k : Int), c, l) ∧ k < l.length ∧ (l.take k).all (z3d c) = true ∧ z3d c (l.getD k default) = false | .inr y => y = (c, l) ∧ l.all (z3d c) = true) ?_ ?_ 0 () (Nat.zero_le _) rfl
  · exact this
  · intro t h
    refine ⟨.inr (c, l), ?_, rfl, by rwa [List.take_length] at h⟩
    simp only [zab]; rw [Tr.run_false (by simp), Tr.run_leaf]
  · intro i t hi h
    simp only [zab]
    rw [Int.toNat_natCast, Tr.run_true (by simpa using hi), Tr.run_guard ⟨by omega, by rw [zfn]; omega⟩, Tr.run_bind (zaoj _ _)]
    cases hn : z3d c (l.getD i default) with
    | true => exact .inl ⟨(), by rw [Tr.run_false (by rfl), Tr.run_leaf, zz (by omega)], by rw [zlq hi default, List.all_append, h, List.all_cons, hn]; rfl, fun r hr => hr⟩
    | false => exact .inr ⟨.inl ((i : Int), c, l), by rw [Tr.run_true (by rfl), Tr.run_leaf], i, rfl, hi, h, hn⟩
theorem zadp {l : List Asked} {c : Int} (hl : l.length * 88 ≤ 140737488351232) {k : Nat} (hk : k < l.length) (ha : (l.take k).all (z3d c) = true) (hn : z3d c (l.getD k default) = false) :
    ∃ r, zb1 k ((k + 1 : Nat) : Int) c l = some r ∧ ∃ n : Nat, r.1 = n ∧ r.2.1 = c ∧ n ≤ l.length ∧ r.2.2.length = l.length ∧ r.2.2.take n = l.filter (z3d c) := by
  rw [zb1]
  have := zg7 (F := fun s : Int × Int × Int × (List Asked) => (zaf s.1 s.2.1 s.2.2.1 s.2.2.2).run) l.length (fun i (t : Nat × List Asked) => ((t.1 : Int), (i : Int), c, t.2)) (fun i t => t.1 < i ∧ t.2.length = l.length ∧ t.2.take t.1 = (l.take i).filter (z3d c) ∧ t.2.drop i = l.drop i)
    (fun i _ r => ∃ n : Nat, r.1 = n ∧ r.2.1 = c ∧ n ≤ l.length ∧ r.2.2.length = l.length ∧ r.2.2.take n = l.filter (z3d c)) ?_ ?_ (k + 1) (k, l) (by omega) ⟨by omega, rfl, ?_, rfl⟩
  · exact this
  · rintro ⟨n, W⟩ ⟨h1, h2, h3, h4⟩
    simp only at h1 h2 h3 h4
    refine ⟨((n : Int), c, W), ?_, n, rfl, rfl, by omega, h2, by rw [h3, List.take_length]⟩
    simp only [zaf]; rw [Tr.run_false (by simp; omega), Tr.run_leaf]
  · rintro i ⟨n, W⟩ hi ⟨h1, h2, h3, h4⟩
    simp only at h1 h2 h3 h4
    have hg : W.getD i default = l.getD i default := by
      have e1 := zbm (l := W) (k := i) (by omega) default
      have e2 := zbm (l := l) (k := i) hi default
      rw [h4, e2] at e1
      exact (List.cons.inj e1).1.symm
    have hd : W.drop (i + 1) = l.drop (i + 1) := by
      have e1 := zbm (l := W) (k := i) (by omega) default
      have e2 := zbm (l := l) (k := i) hi default
      rw [h4, e2] at e1
      exact (List.cons.inj e1).2.symm
    simp only [zaf]
    rw [Int.toNat_natCast, Int.toNat_natCast, hg, Tr.run_true (by simp; omega), Tr.run_guard ⟨by omega, by rw [zfn]; omega⟩, Tr.run_bind (zaoj _ _)]
    cases hq : z3d c (l.getD i default) with
    | true =>
      refine .inl ⟨(n + 1, W.set n (l.getD i default)), by rw [Tr.run_true (by rfl), Tr.run_guard ⟨by omega, by rw [zfn]; omega⟩, Tr.run_leaf, zz (by omega), zz (by omega)], ⟨by simp only []; omega, by simp only [List.length_set]; exact h2, ?_, ?_⟩, fun r hr => hr⟩
      · simp only []
        rw [zlq (by rw [List.length_set]; omega) default, List.take_set_of_le (by omega), h3, zlq hi default, List.filter_append, zsn (by rw [List.length_set]; omega), List.getElem_set_self, List.filter_cons, hq]
        rfl
      · simp only []
        rw [List.drop_set_of_lt (by omega), hd]
    | false =>
      refine .inl ⟨(n, W), by rw [Tr.run_false (by rfl), Tr.run_leaf, zz (by omega)], ⟨by simp only []; omega, h2, ?_, hd⟩, fun r hr => hr⟩
      simp only []
      rw [h3, zlq hi default, List.filter_append, List.filter_cons, hq]
      simp
  · simp only []
    rw [zlq hk default, List.filter_append, List.filter_cons, hn, List.filter_eq_self.2 (fun a h => List.all_eq_true.1 ha a h)]
    simp
theorem zag3 {l : List Asked} {c : Int} (hl : l.length * 88 ≤ 140737488351232) : zct c l = some (c, l.filter (z3d c)) := by
  have hi : zbb c l = some (-1, c, l) ∧ l.all (z3d c) = true ∨ ∃ k : Nat, zbb c l = some ((k : Int), c, l) ∧ k < l.length ∧ (l.take k).all (z3d c) = true ∧ z3d c (l.getD k default) = false := by
    obtain ⟨r, h1, h2⟩ := zag2 (c := c) hl
    rw [zbb, zbg]
    cases r with
    | inl y =>
      obtain ⟨k, rfl, h3, h4, h5⟩ := h2
      exact .inr ⟨k, by rw [Tr.run_inl h1, Tr.run_leaf], h3, h4, h5⟩
    | inr y =>
      obtain ⟨rfl, h3⟩ := h2
      exact .inl ⟨by rw [Tr.run_inr h1, Tr.run_leaf], h3⟩
  rw [zct, zbn]
  rcases hi with ⟨h1, h2⟩ | ⟨k, h1, h2, h3, h4⟩
  · rw [Tr.run_bind h1, Tr.run_true (by rfl), Tr.run_leaf, List.filter_eq_self.2 (fun a h => List.all_eq_true.1 h2 a h)]
  · obtain ⟨r, k1, n, k2, k3, k4, k5, k6⟩ := zadp hl h2 h3 h4
    have hcl : zaae r.2.2 r.1 = some (r.2.2.take n ++ List.replicate (r.2.2.length - n) default) := by
      unfold zaae
      rw [k2, if_pos (by omega), Int.toNat_natCast]
    have hlt : (r.2.2.take n).length = n := by rw [List.length_take]; omega
    rw [Tr.run_bind h1, Tr.run_false (by simp), zz (by omega), Tr.run_bind k1, Tr.run_bind hcl, k2, Tr.run_guard ⟨by omega, by rw [zfn, List.length_append, hlt]; omega⟩, Tr.run_leaf, k3, Int.toNat_natCast, List.drop_zero, Nat.sub_zero, List.take_left' hlt, k6]
theorem z9t {p : za} (hf : FitPr 140737488351232 p) {c : Int} : zdd p c = some (zwx p c) := by
  rw [zdd, zht, Tr.run_bind (zg9 hf)]
  unfold zwx
  rw [Tr.run_guard (by
    intro h0
    simp only [Bool.or_eq_false_iff, decide_eq_false_iff_not] at h0
    exact ⟨by omega, trivial⟩)]
  by_cases h : zat p = true ∧ (0 ≤ c ∧ c < 2) ∧ p.Links.On.get c = true
  · obtain ⟨h1, h2, h3⟩ := h
    rw [if_pos ⟨h1, h2, h3⟩, Tr.run_false (by rw [h1, h3]; simp; omega), Tr.run_guard h2, Tr.run_guard h2, Tr.run_guard h2, Tr.run_guard h2, Tr.run_guard h2, Tr.run_bind (z1k hf.waits), Tr.run_bind (z7q hf.queue), Tr.run_bind (zag3 hf.queue), Tr.run_leaf]
    rfl
  · rw [if_neg h, Tr.run_true (by
      simp only [Bool.or_eq_true, decide_eq_true_eq, Bool.not_eq_true']
      cases h1 : zat p with
      | false => exact .inl (.inl (.inl rfl))
      | true =>
        by_cases h2 : 0 ≤ c ∧ c < 2
        · exact .inr (Bool.eq_false_iff.2 (fun h3 => h ⟨h1, h2, h3⟩))
        · exact .inl (by omega)), Tr.run_leaf]
end Go.Proofs.YtmakmlnfbdablaaGreat.Ab
namespace Go.Proofs.YtmakmlnfbdablaaGreat.Ab
open Go Go.RowKit
set_option linter.unusedVariables false
set_option linter.unusedSimpArgs false
theorem zabp {α : Type} {P : α → Prop} {a : A2 α} (h0 : P (a.get 0)) (h1 : P (a.get 1)) (c : Int) : P (a.get c) := by
  by_cases h : c = 0
  · rw [h]; exact h0
  · have : a.get c = a.get 1 := by unfold A2.get; rw [if_neg h]; rfl
    rw [this]; exact h1
theorem z5o {m : Int} : ∀ {l : List Power} {p : Int}, (∀ q, q ∈ l → p < q.V ∧ q.V ≤ 5 ∧ m ≤ q.N ∧ q.N ≤ 1125899906842624) → l.Pairwise (fun a b => a.V < b.V) → zx m p l = true
  | [], p, _, _ => rfl
  | q :: l, p, h1, h2 => by
    have hq := h1 q (List.mem_cons_self ..)
    rw [List.pairwise_cons] at h2
    simp only [zx, Bool.and_eq_true, decide_eq_true_eq]
    exact ⟨⟨⟨⟨hq.1, hq.2.1⟩, hq.2.2.1⟩, hq.2.2.2⟩, z5o (fun x hx => ⟨h2.1 x hx, (h1 x (List.mem_cons_of_mem _ hx)).2⟩) h2.2⟩
theorem zawi {s : Stake} (hg : GoodS s) : zx 1 (-1) (setS s) = true := by
  refine z5o (fun q hq => ?_) (zwc _)
  obtain ⟨hv, _, hn, h1⟩ := zamt hg hq
  have := (hg.at hv).1.1
  unfold inA at this
  omega
def GoodX (p : za) : Prop := GoodS p.Stake ∧ (0 ≤ p.Height ∧ 0 ≤ p.Time ∧ p.Time ≤ 1099511627776) ∧ zx 1 (-1) p.Set = true ∧ okLk p 0 = true ∧ okLk p 1 = true ∧ p.Queue.all (zw6 p) = true
theorem goodPr_iff {p : za} : zat p = true ↔ GoodX p ∧ p.Height < 1099511627776 := by
  constructor
  · intro h
    obtain ⟨a, ⟨b1, b2, b3, b4⟩, c, d, e, f⟩ := zjn h
    exact ⟨⟨a, ⟨b1, b3, b4⟩, c, d, e, f⟩, b2⟩
  · rintro ⟨⟨a, ⟨b1, b3, b4⟩, c, d, e, f⟩, b2⟩
    unfold zat
    simp only [Bool.and_eq_true, decide_eq_true_eq]
    exact ⟨⟨⟨⟨⟨a, b1, b2, b3, b4⟩, c⟩, d⟩, e⟩, f⟩
structure LkX (p : za) (c : Int) : Prop where
  on : ¬ (p.Links.On.get c = true ∧ p.Links.Gone.get c = true)
  b0 : 0 ≤ p.Links.Base.get c
  b1 : p.Links.Base.get c ≤ p.Height
  told : zx 1 (-1) (p.Links.Told.get c) = true
  line : zer (zi0 p.Links c)
  done : zak (-1) (p.Links.Done.get c) = true
theorem okLk_iff {p : za} {c : Int} : okLk p c = true ↔ LkX p c := by
  unfold okLk
  simp only [Bool.and_eq_true, decide_eq_true_eq]
  constructor
  · rintro ⟨⟨⟨⟨⟨h1, h2⟩, h3⟩, h4⟩, h5⟩, h6⟩
    exact ⟨fun ⟨x, y⟩ => (by rw [x, y] at h1; cases h1), h2, h3, h4, h5, h6⟩
  · rintro ⟨h1, h2, h3, h4, h5, h6⟩
    refine ⟨⟨⟨⟨⟨?_, h2⟩, h3⟩, h4⟩, h5⟩, h6⟩
    cases x : p.Links.On.get c
    · rfl
    · cases y : p.Links.Gone.get c
      · rfl
      · exact absurd ⟨x, y⟩ h1
theorem GoodX.lk {p : za} (h : GoodX p) {c : Int} (hc : 0 ≤ c ∧ c < 2) : LkX p c := by
  rcases (show c = 0 ∨ c = 1 by omega) with rfl | rfl
  · exact okLk_iff.1 h.2.2.2.1
  · exact okLk_iff.1 h.2.2.2.2.1
theorem ask_iff {p : za} {a : Asked} : zw6 p a = true ↔ (0 ≤ a.C ∧ a.C < 2) ∧ p.Links.On.get a.C = true ∧ zgd a.P = 0 ∧ a.P.Kind ≠ 1 := by
  unfold zw6
  simp only [Bool.and_eq_true, decide_eq_true_eq, beq_iff_eq, Bool.not_eq_true', beq_eq_false_iff_ne]
  constructor
  · rintro ⟨⟨⟨⟨c0, c1⟩, c2⟩, c3⟩, c4⟩; exact ⟨⟨c0, c1⟩, c2, c3, c4⟩
  · rintro ⟨⟨c0, c1⟩, c2, c3, c4⟩; exact ⟨⟨⟨⟨c0, c1⟩, c2⟩, c3⟩, c4⟩
theorem GoodX.ask {p : za} (h : GoodX p) {a : Asked} (ha : a ∈ p.Queue) : (0 ≤ a.C ∧ a.C < 2) ∧ p.Links.On.get a.C = true ∧ zgd a.P = 0 ∧ a.P.Kind ≠ 1 := ask_iff.1 (List.all_eq_true.1 h.2.2.2.2.2 a ha)
theorem fitX {p : za} (h : GoodX p) {R : Nat} (hR : 100000 ≤ R) (hq : p.Queue.length * 88 ≤ R) : FitPr R p := by
  have l0 := h.lk (c := 0) (by omega)
  have l1 := h.lk (c := 1) (by omega)
  have lp : ∀ {l : List Power}, zx 1 (-1) l = true → l.length * 16 ≤ R := fun hl => by have := zln hl (by omega); omega
  have ld : ∀ {l : List Int}, zak (-1) l = true → l.length * 8 ≤ R := fun hl => by have := z3c hl; omega
  have lS : ∀ {c : Int}, LkX p c → (p.Links.Said.get c).length ≤ 400 ∧ (p.Links.Due.get c).length ≤ 400 := by
    intro c l
    have e1 : (p.Links.Said.get c).length = (p.Links.Due.get c).length := l.line.1
    have e2 : (p.Links.Said.get c).length ≤ 400 := l.line.2.1
    omega
  have s0 := lS l0
  have s1 := lS l1
  have hw : p.Stake.Waits.length ≤ 60 := h.1.2.1.2.2
  have t0 := lp l0.told; have t1 := lp l1.told; have d0 := ld l0.done; have d1 := ld l1.done
  have hset := lp h.2.2.1
  have hask := fun a ha => z5n (h.ask (a := a) ha).2.2.1
  have hw' : p.Stake.Waits.length * 64 ≤ R := by omega
  have a0 : (p.Links.Said.get 0).length * 16 ≤ R := by omega
  have a1 : (p.Links.Said.get 1).length * 16 ≤ R := by omega
  have b0 : (p.Links.Due.get 0).length * 8 ≤ R := by omega
  have b1 : (p.Links.Due.get 1).length * 8 ≤ R := by omega
  have hps : ∀ a, a ∈ p.Queue → a.P.Set.length * 16 ≤ R ∧ a.P.Done.length * 8 ≤ R := fun a ha => by have := hask a ha; omega
  exact ⟨hw', hset, fun c => zabp (P := fun l : List Power => l.length * 16 ≤ R) (a := p.Links.Told) t0 t1 c, fun c => zabp (P := fun l : List Int => l.length * 8 ≤ R) (a := p.Links.Done) d0 d1 c,
    fun c => zabp (P := fun l : List ByteArray => l.length * 16 ≤ R) (a := p.Links.Said) a0 a1 c, fun c => zabp (P := fun l : List Int => l.length * 8 ≤ R) (a := p.Links.Due) b0 b1 c, hq, hps⟩
theorem zag4 {l : zes} {s : ByteArray} {u : Int} (h : zer l) (hu : 0 ≤ u) : zer (z88 l s u).1 := by
  unfold z88
  rw [if_neg (by rintro (k | k); exact k h; omega)]
  split
  · exact h
  · split
    · exact h
    · rename_i h4
      obtain ⟨g1, g2, g3, g4, g5⟩ := h
      refine ⟨by simp [g1], by simp only [List.length_append, List.length_singleton]; omega, g3, by simp only [List.length_append, List.length_singleton]; omega, ?_⟩
      simp only [List.any_append, g5, Bool.false_or, List.any_cons, List.any_nil, Bool.or_false, decide_eq_false_iff_not]
      omega
theorem z3e {p : za} (hg : zat p = true) (now : Int) : ∃ S D M, (zgw p now).1 = upP (zx3 p now) S D M ∧ GoodS S ∧ (∀ c : Int, zak (-1) (D.get c) = true) ∧ (zgw p now).2.2.length ≤ p.Queue.length ∧ ∀ b, b ∈ (zgw p now).2.2 → b ∈ p.Queue := by
  obtain ⟨⟨S, D, M, e, hS, d0, d1⟩, hq2, hq3, hq4⟩ := z5k (now := now) hg
  exact ⟨S, D, M, e, hS, zabp (P := fun l => zak (-1) l = true) d0 d1, hq2, hq4⟩
theorem zabq {p : za} (hg : zat p = true) {now : Int} (hn : p.Time ≤ now ∧ now ≤ 1099511627776) : GoodX (zop p now) := by
  obtain ⟨S, D, M, e, hS, hd, hl, hm⟩ := z3e hg now
  have hx := (goodPr_iff.1 hg).1
  have hp := zae6 hS now
  have hn0 := hx.2.1
  unfold zop
  rw [e]
  refine ⟨hp, ⟨by show 0 ≤ p.Height + 1; omega, by show 0 ≤ now; omega, hn.2⟩, zawi hp, okLk_iff.2 ?_, okLk_iff.2 ?_, List.all_eq_true.2 fun b hb => ?_⟩
  · obtain ⟨a1, a2, a3, a4, a5, a6⟩ := hx.lk (c := 0) (by omega)
    exact ⟨a1, a2, by show p.Links.Base.get 0 ≤ p.Height + 1; omega, a4, a5, hd 0⟩
  · obtain ⟨a1, a2, a3, a4, a5, a6⟩ := hx.lk (c := 1) (by omega)
    exact ⟨a1, a2, by show p.Links.Base.get 1 ≤ p.Height + 1; omega, a4, a5, hd 1⟩
  · exact ask_iff.2 (hx.ask (hm b hb))
theorem z01 (p : za) (c now : Int) : (zek p c now).Height = p.Height ∧ (zek p c now).Time = p.Time ∧ (zek p c now).Stake = p.Stake ∧ (zek p c now).Set = p.Set ∧ (zek p c now).Meter = p.Meter ∧ (zek p c now).Queue = p.Queue ∧
    (zek p c now).Links.On = p.Links.On ∧ (zek p c now).Links.Gone = p.Links.Gone ∧ (zek p c now).Links.Base = p.Links.Base ∧ (zek p c now).Links.SHeight = p.Links.SHeight ∧ (zek p c now).Links.STime = p.Links.STime ∧ (zek p c now).Links.SSaid = p.Links.SSaid ∧ (zek p c now).Links.SGot = p.Links.SGot := by
  unfold zek
  repeat' split
  all_goals exact ⟨rfl, rfl, rfl, rfl, rfl, rfl, rfl, rfl, rfl, rfl, rfl, rfl, rfl⟩
theorem z7r {p : za} {c j now : Int} (hc : 0 ≤ c ∧ c < 2) (hj : 0 ≤ j ∧ j < 2) (h : j ≠ c) : (zek p c now).Links.Told.get j = p.Links.Told.get j ∧ (zek p c now).Links.Fresh.get j = p.Links.Fresh.get j ∧ (zek p c now).Links.Done.get j = p.Links.Done.get j ∧ zi0 (zek p c now).Links j = zi0 p.Links j := by
  unfold zek
  repeat' split
  · exact ⟨rfl, rfl, rfl, rfl⟩
  · exact ⟨rfl, rfl, rfl, rfl⟩
  · exact ⟨rfl, rfl, rfl, rfl⟩
  · unfold zam5 zi0
    simp only [zap _ _ hc hj, if_neg h]
    exact ⟨trivial, trivial, trivial, trivial⟩
theorem zawj {p : za} {c : Int} (hs : zx 1 (-1) p.Set = true) : zx 0 (-1) (dOf p c) = true := by
  have hb : ∀ v : Nat, 0 ≤ fP p.Set v ∧ fP p.Set v ≤ 1125899906842624 := by
    intro v
    unfold fP
    have hm := zou (by omega) hs (by omega)
    revert hm
    generalize p.Set = l
    intro hm
    induction l with
    | nil => simp [zd7]
    | cons q l ih =>
      simp only [zd7]
      split
      · have := hm q (List.mem_cons_self ..); omega
      · exact ih (fun q hq => hm q (List.mem_cons_of_mem _ hq))
  unfold dOf
  generalize fP p.Set = g at hb
  generalize fP (p.Links.Told.get c) = f
  have hm : ∀ q, q ∈ zx1 f g → ∃ v : Nat, v < 6 ∧ q = ⟨v, g v⟩ := by
    intro q hq
    rw [z4x] at hq
    simp only [List.mem_append, List.not_mem_nil, or_false] at hq
    have key : ∀ v : Nat, v < 6 → q ∈ z4w (v : Int) (g v) (f v) → ∃ v : Nat, v < 6 ∧ q = ⟨v, g v⟩ := by
      intro v hv h
      unfold z4w at h
      split at h
      · exact ⟨v, hv, List.mem_singleton.1 h⟩
      · cases h
    rcases hq with h | h | h | h | h | h
    · exact key 0 (by omega) h
    · exact key 1 (by omega) h
    · exact key 2 (by omega) h
    · exact key 3 (by omega) h
    · exact key 4 (by omega) h
    · exact key 5 (by omega) h
  refine z5o (fun q hq => ?_) ?_
  · obtain ⟨v, hv, rfl⟩ := hm q hq
    have := hb v
    refine ⟨by show (-1 : Int) < (v : Int); omega, by show (v : Int) ≤ 5; omega, this.1, this.2⟩
  · rw [z4x]
    have one : ∀ (v : Int) (x y : Int), (z4w v x y).Pairwise (fun a b => a.V < b.V) := by
      intro v x y; unfold z4w; split
      · exact List.pairwise_singleton ..
      · exact .nil
    have mem : ∀ {v x y : Int} {q : Power}, q ∈ z4w v x y → q.V = v := by
      intro v x y q h; unfold z4w at h; split at h
      · rw [List.mem_singleton.1 h]
      · cases h
    refine List.pairwise_append.2 ⟨one _ _ _, List.pairwise_append.2 ⟨one _ _ _, List.pairwise_append.2 ⟨one _ _ _, List.pairwise_append.2 ⟨one _ _ _, List.pairwise_append.2 ⟨one _ _ _, List.pairwise_append.2 ⟨one _ _ _, .nil, ?_⟩, ?_⟩, ?_⟩, ?_⟩, ?_⟩, ?_⟩
    all_goals
      intro a ha b hb
      have k := mem ha
      first
      | (exfalso; cases hb; done)
      | (simp only [List.mem_append, List.not_mem_nil, or_false] at hb
         first
         | (rcases hb with h | h | h | h | h <;> have := mem h <;> omega)
         | (rcases hb with h | h | h | h <;> have := mem h <;> omega)
         | (rcases hb with h | h | h <;> have := mem h <;> omega)
         | (rcases hb with h | h <;> have := mem h <;> omega)
         | (have := mem hb; omega))
theorem zakc {p : za} {c : Int} (hs : zx 1 (-1) p.Set = true) (hd : zak (-1) (p.Links.Done.get c) = true) (hH : 1 ≤ p.Height ∧ p.Height ≤ 1099511627776) : zgd (pkOf p c) = 0 := by
  unfold zgd pkOf
  simp only []
  rw [if_neg (by omega), if_neg (by omega), if_neg (by omega), zawj hs, hd]
  rfl
theorem zam7 {p : za} {c now : Int} (h : GoodX p) (hc : 0 ≤ c ∧ c < 2) (hH : 1 ≤ p.Height ∧ p.Height ≤ 1099511627776) (hn : 0 ≤ now) :
    (zek p c now = p ∧ (z2m p c ∨ p.Links.Closed.get c = true ∨ 400 ≤ (p.Links.Said.get c).length)) ∨
    (¬ z2m p c ∧ p.Links.Closed.get c = false ∧ (p.Links.Said.get c).length < 400 ∧ (zek p c now).Links = { p.Links with Told := p.Links.Told.set c p.Set, Fresh := p.Links.Fresh.set c false, Done := p.Links.Done.set c [], Said := p.Links.Said.set c (p.Links.Said.get c ++ [txt (zyq (pkOf p c))]), Due := p.Links.Due.set c (p.Links.Due.get c ++ [now + 40]) }) := by
  have lk := h.lk hc
  have hg := zakc (c := c) h.2.2.1 lk.done hH
  unfold zek
  by_cases hq : z2m p c
  · rw [if_pos hq]; exact .inl ⟨rfl, .inl hq⟩
  · rw [if_neg hq, zm5 hg, if_neg (by simp)]
    have hu : ¬ (¬ zer (zi0 p.Links c) ∨ now + 40 < 0) := by rintro (k | k); exact k lk.line; omega
    cases hcl : p.Links.Closed.get c with
    | true =>
      have : zp2 p c now = (zi0 p.Links c, 11) := by unfold zp2 z88; rw [if_neg hu, if_pos hcl]
      rw [this, if_pos (by simp)]; exact .inl ⟨rfl, .inr (.inl rfl)⟩
    | false =>
      by_cases h4 : 400 ≤ (p.Links.Said.get c).length
      · have : zp2 p c now = (zi0 p.Links c, 6) := by unfold zp2 z88; rw [if_neg hu, if_neg (by simp [hcl]), if_pos h4]
        rw [this, if_pos (by simp)]; exact .inl ⟨rfl, .inr (.inr h4)⟩
      · have e : zp2 p c now = (⟨p.Links.Said.get c ++ [txt (zyq (pkOf p c))], p.Links.Due.get c ++ [now + 40], p.Links.Got.get c, p.Links.Closed.get c⟩, 0) := by
          unfold zp2 z88; rw [if_neg hu, if_neg (by simp [hcl]), if_neg h4, zm5 hg]
        rw [if_neg (by rw [e]; simp)]
        refine .inr ⟨hq, rfl, by omega, ?_⟩
        unfold zam5
        rw [e]
        simp only [zpv _ hc]
theorem z5p {p : za} {c now : Int} (h : GoodX p) (hc : 0 ≤ c ∧ c < 2) (hn : 0 ≤ now) : GoodX (zek p c now) := by
  unfold zek
  repeat' split
  · exact h
  · exact h
  · exact h
  · have hlk : ∀ j : Int, 0 ≤ j ∧ j < 2 → LkX (zam5 p c now) j := by
      intro j hj
      obtain ⟨a1, a2, a3, a4, a5, a6⟩ := h.lk hj
      by_cases e : j = c
      · subst e
        refine ⟨a1, a2, a3, ?_, ?_, ?_⟩
        · show zx 1 (-1) ((p.Links.Told.set j p.Set).get j) = true
          rw [zap _ _ hj hj, if_pos rfl]; exact h.2.2.1
        · show zer ⟨(p.Links.Said.set j (zp2 p j now).1.Said).get j, (p.Links.Due.set j (zp2 p j now).1.Due).get j, (p.Links.Got.set j (zp2 p j now).1.Got).get j, (p.Links.Closed.set j (zp2 p j now).1.Closed).get j⟩
          simp only [zap _ _ hj hj, if_pos]
          refine zag4 a5 ?_
          have : 0 ≤ now := hn
          omega
        · show zak (-1) ((p.Links.Done.set j []).get j) = true
          rw [zap _ _ hj hj, if_pos rfl]; rfl
      · refine ⟨a1, a2, a3, ?_, ?_, ?_⟩
        · show zx 1 (-1) ((p.Links.Told.set c p.Set).get j) = true
          rw [zap _ _ hc hj, if_neg e]; exact a4
        · show zer ⟨(p.Links.Said.set c (zp2 p c now).1.Said).get j, (p.Links.Due.set c (zp2 p c now).1.Due).get j, (p.Links.Got.set c (zp2 p c now).1.Got).get j, (p.Links.Closed.set c (zp2 p c now).1.Closed).get j⟩
          simp only [zap _ _ hc hj, if_neg e]
          exact a5
        · show zak (-1) ((p.Links.Done.set c []).get j) = true
          rw [zap _ _ hc hj, if_neg e]; exact a6
    exact ⟨h.1, h.2.1, h.2.2.1, okLk_iff.2 (hlk 0 (by omega)), okLk_iff.2 (hlk 1 (by omega)), h.2.2.2.2.2⟩
theorem zam8 {p : za} (hg : zat p = true) {now : Int} (hn : p.Time ≤ now ∧ now ≤ 1099511627776) : GoodX (zpw p now).1 := by
  unfold zpw
  rw [if_pos ⟨hg, hn⟩]
  have h0 := (goodPr_iff.1 hg).1.2.1
  exact z5p (z5p (zabq hg hn) (by omega) (by omega)) (by omega) (by omega)
theorem zabr {p : za} (hg : zat p = true) {c : Int} (hc : 0 ≤ c ∧ c < 2) : zat (z00 p c) = true := by
  obtain ⟨hx, hH⟩ := goodPr_iff.1 hg
  have hlk : ∀ j : Int, 0 ≤ j ∧ j < 2 → LkX (z00 p c) j := by
    intro j hj
    obtain ⟨a1, a2, a3, a4, a5, a6⟩ := hx.lk hj
    refine ⟨?_, a2, a3, a4, a5, ?_⟩
    · show ¬ ((p.Links.On.set c false).get j = true ∧ (p.Links.Gone.set c true).get j = true)
      rw [zap _ _ hc hj, zap _ _ hc hj]
      by_cases e : j = c
      · rw [if_pos e]; simp
      · rw [if_neg e, if_neg e]; exact a1
    · show zak (-1) ((p.Links.Done.set c []).get j) = true
      rw [zap _ _ hc hj]
      by_cases e : j = c
      · rw [if_pos e]; rfl
      · rw [if_neg e]; exact a6
  refine goodPr_iff.2 ⟨⟨z2k hx.1, hx.2.1, hx.2.2.1, okLk_iff.2 (hlk 0 (by omega)), okLk_iff.2 (hlk 1 (by omega)), List.all_eq_true.2 fun b hb => ask_iff.2 ?_⟩, hH⟩
  obtain ⟨h1, h2⟩ := List.mem_filter.1 hb
  obtain ⟨q1, q2, q3, q4⟩ := hx.ask h1
  refine ⟨q1, ?_, q3, q4⟩
  show (p.Links.On.set c false).get b.C = true
  rw [zap _ _ hc q1, if_neg (by simpa [z3d] using h2)]
  exact q2
end Go.Proofs.YtmakmlnfbdablaaGreat.Ab
namespace Go.Proofs.YtmakmlnfbdablaaGreat.Ab
open Go Go.RowKit
set_option linter.unusedVariables false
set_option linter.unusedSimpArgs false
theorem zarq {p : za} {now : Int} (h : zat p = true ∧ p.Time ≤ now ∧ now ≤ 1099511627776) : (zpw p now).2.2 = 0 := by unfold zpw; rw [if_pos h]
theorem zam9 {p : za} {now : Int} (h : zat p = true ∧ p.Time ≤ now ∧ now ≤ 1099511627776) :
    (zpw p now).1.Height = p.Height + 1 ∧ (zpw p now).1.Time = now ∧ (zpw p now).1.Stake = (z7h (zgw p now).1.Stake now).1 ∧ (zpw p now).1.Set = setS (z7h (zgw p now).1.Stake now).1 ∧ (zpw p now).1.Queue = (zgw p now).2.2 ∧
    (zpw p now).1.Links.On = p.Links.On ∧ (zpw p now).1.Links.Gone = p.Links.Gone ∧ (zpw p now).1.Links.Base = p.Links.Base := by
  unfold zpw
  rw [if_pos h]
  obtain ⟨S, D, M, e, -⟩ := z3e h.1 now
  obtain ⟨a1, a2, a3, a4, a5, a6, a7, a8, a9, -⟩ := z01 (zek (zop p now) 0 now) 1 now
  obtain ⟨b1, b2, b3, b4, b5, b6, b7, b8, b9, -⟩ := z01 (zop p now) 0 now
  simp only [a1, a2, a3, a4, a6, a7, a8, a9, b1, b2, b3, b4, b6, b7, b8, b9]
  refine ⟨?_, ?_, rfl, rfl, rfl, ?_, ?_, ?_⟩
  all_goals
    unfold zop
    rw [e]
    rfl
end Go.Proofs.YtmakmlnfbdablaaGreat.Ab
namespace Go.Proofs.YtmakmlnfbdablaaGreat.Ab
open Go Go.RowKit
set_option linter.unusedVariables false
set_option linter.unusedSimpArgs false
def zawk (on fresh : Bool) (told : List Power) (D : List Int) (l : zes) (H now : Int) (set told' : List Power) (D' : List Int) (fresh' : Bool) (l' : zes) : Prop :=
  (told' = told ∧ D' = D ∧ fresh' = fresh ∧ l' = l ∧ (on = false ∨ (zx1 (fP told) (fP set) = [] ∧ D = [] ∧ fresh = false) ∨ l.Closed = true ∨ 400 ≤ l.Said.length)) ∨
  (told' = set ∧ D' = [] ∧ fresh' = false ∧ on = true ∧ l.Closed = false ∧ l.Said.length < 400 ∧ ¬ (zx1 (fP told) (fP set) = [] ∧ D = [] ∧ fresh = false) ∧ zgd ⟨1, H, 0, 0, zx1 (fP told) (fP set), D⟩ = 0 ∧
    l' = ⟨l.Said ++ [txt (zyq ⟨1, H, 0, 0, zx1 (fP told) (fP set), D⟩)], l.Due ++ [now + 40], l.Got, l.Closed⟩)
theorem zabs {p : za} {c now : Int} (h : GoodX p) (hc : 0 ≤ c ∧ c < 2) (hH : 1 ≤ p.Height ∧ p.Height ≤ 1099511627776) (hn : 0 ≤ now) :
    zawk (p.Links.On.get c) (p.Links.Fresh.get c) (p.Links.Told.get c) (p.Links.Done.get c) (zi0 p.Links c) p.Height now p.Set ((zek p c now).Links.Told.get c) ((zek p c now).Links.Done.get c) ((zek p c now).Links.Fresh.get c) (zi0 (zek p c now).Links c) := by
  rcases zam7 h hc hH hn with ⟨e, h1⟩ | ⟨h1, h2, h3, e⟩
  · rw [e]
    refine .inl ⟨rfl, rfl, rfl, rfl, ?_⟩
    rcases h1 with (h1 | h1) | h1 | h1
    · exact .inl h1
    · exact .inr (.inl h1)
    · exact .inr (.inr (.inl h1))
    · exact .inr (.inr (.inr h1))
  · rw [e]
    have on : p.Links.On.get c = true := by
      cases o : p.Links.On.get c with
      | true => rfl
      | false => exact absurd (.inl o) h1
    refine .inr ⟨?_, ?_, ?_, on, h2, h3, fun k => h1 (.inr k), zakc h.2.2.1 (h.lk hc).done hH, ?_⟩
    · simp only [zap _ _ hc hc, if_pos]
    · simp only [zap _ _ hc hc, if_pos]
    · simp only [zap _ _ hc hc, if_pos]
    · unfold zi0
      simp only [zap _ _ hc hc, if_pos]
      rfl
theorem zakd {p : za} (hg : zat p = true) (now : Int) : (zop p now).Height = p.Height + 1 ∧ (zop p now).Links.On = p.Links.On ∧ (zop p now).Links.Fresh = p.Links.Fresh ∧ (zop p now).Links.Told = p.Links.Told ∧ (∀ c, zi0 (zop p now).Links c = zi0 p.Links c) := by
  obtain ⟨S, D, M, e, -⟩ := z3e hg now
  unfold zop
  rw [e]
  exact ⟨rfl, rfl, rfl, rfl, fun _ => rfl⟩
theorem zana {p : za} {now : Int} (h : zat p = true ∧ p.Time ≤ now ∧ now ≤ 1099511627776) {c : Int} (hc : 0 ≤ c ∧ c < 2) :
    ∃ D, D = (zop p now).Links.Done.get c ∧ zawk (p.Links.On.get c) (p.Links.Fresh.get c) (p.Links.Told.get c) D (zi0 p.Links c) (zpw p now).1.Height now (zpw p now).1.Set ((zpw p now).1.Links.Told.get c) ((zpw p now).1.Links.Done.get c) ((zpw p now).1.Links.Fresh.get c) (zi0 (zpw p now).1.Links c) := by
  obtain ⟨hx, hH⟩ := goodPr_iff.1 h.1
  have hn : 0 ≤ now := by have := hx.2.1.2.1; omega
  have h0 := hx.2.1.1
  have g0 := zabq h.1 h.2
  have g1 := z5p (c := 0) g0 (by omega) hn
  obtain ⟨p1, p2, p3, p4, p5⟩ := zakd h.1 now
  obtain ⟨a1, a2, a3, a4, a5, a6, a7, a8, a9, -⟩ := z01 (zek (zop p now) 0 now) 1 now
  obtain ⟨b1, b2, b3, b4, b5, b6, b7, b8, b9, -⟩ := z01 (zop p now) 0 now
  refine ⟨_, rfl, ?_⟩
  unfold zpw
  rw [if_pos h]
  simp only []
  rw [a1, a4, b1, b4, ← p2, ← p3, ← p4, ← p5 c]
  rcases (show c = 0 ∨ c = 1 by omega) with rfl | rfl
  · obtain ⟨t1, t2, t3, t4⟩ := z7r (p := zek (zop p now) 0 now) (c := 1) (j := 0) (now := now) (by omega) (by omega) (by omega)
    rw [t1, t2, t3, t4]
    exact zabs g0 hc (by omega) hn
  · obtain ⟨t1, t2, t3, t4⟩ := z7r (p := zop p now) (c := 0) (j := 1) (now := now) (by omega) (by omega) (by omega)
    have := zabs (c := 1) (now := now) g1 hc (by rw [b1]; omega) hn
    rw [b7, t1, t2, t3, t4, b1, b4] at this
    exact this
end Go.Proofs.YtmakmlnfbdablaaGreat.Ab
namespace Go.Proofs.YtmakmlnfbdablaaGreat.Ab
open Go Go.RowKit
set_option linter.unusedVariables false
set_option linter.unusedSimpArgs false
theorem z7s {C : zcp} {i j : Int} (hi : 0 ≤ i ∧ i < 2) (hj : 0 ≤ j ∧ j < 2) (c : zb) : ze (zrn C i c) j = if j = i then c else ze C j := by
  unfold ze zrn
  simp only [zap _ _ hi hj]
  by_cases e : j = i
  · simp only [if_pos e]
  · simp only [if_neg e]
theorem zpy {C : zcp} {i : Int} (hi : 0 ≤ i ∧ i < 2) (c : zb) : ze (zrn C i c) i = c := by rw [z7s hi hi, if_pos rfl]
theorem zm9 {C : zcp} {i j : Int} (hi : 0 ≤ i ∧ i < 2) (hj : 0 ≤ j ∧ j < 2) (h : j ≠ i) (c : zb) : ze (zrn C i c) j = ze C j := by rw [z7s hi hj, if_neg h]
theorem zabt {C : zcp} {i : Int} (hi : 0 ≤ i ∧ i < 2) : zrn C i (ze C i) = C := by
  unfold ze zrn
  simp only [zpv _ hi]
def z5q (L : Links) (i : Int) (l : zes) : Links := { L with Said := L.Said.set i l.Said, Due := L.Due.set i l.Due, Got := L.Got.set i l.Got, Closed := L.Closed.set i l.Closed }
def zadq (L : Links) (i : Int) (h : z72) : Links := { L with SHeight := L.SHeight.set i h.Height, STime := L.STime.set i h.Time, SSaid := L.SSaid.set i h.Said, SGot := L.SGot.set i h.Got }
theorem z1r {L : Links} {i j : Int} (hi : 0 ≤ i ∧ i < 2) (hj : 0 ≤ j ∧ j < 2) (l : zes) : zv (z5q L i l) j = if j = i then { zv L j with Out := l } else zv L j := by
  unfold zv z5q
  simp only [zap _ _ hi hj]
  by_cases e : j = i
  · simp only [if_pos e]
  · simp only [if_neg e]
theorem zyu (L : Links) (i : Int) : zi0 L i = (zv L i).Out := rfl
def noW (w : Wld) (e : Int) : Wld × Reply := (w, ⟨e, 0⟩)
def zanb (h : zw0) (p : za) (C : zcp) : zw0 :=
  { h with PHeight := ⟨p.Height, p.Height⟩, PTime := ⟨p.Time, p.Time⟩, PSaid := ⟨((p.Links.Said.x0.length : Nat) : Int), ((p.Links.Said.x1.length : Nat) : Int)⟩, PGot := C.Got }
def za5t (h : zw0) (i : Int) (c : zb) (got : Int) : zw0 :=
  { h with CHeight := h.CHeight.set i c.Height, CTime := h.CTime.set i c.Time, CSaid := h.CSaid.set i ((c.Out.Said.length : Nat) : Int), CGot := h.CGot.set i got }
def zawl (h : zw0) (i : Int) : zw0 :=
  ⟨h.PHeight.set i 0, h.PTime.set i 0, h.PSaid.set i 0, h.PGot.set i 0, h.CHeight.set i 0, h.CTime.set i 0, h.CSaid.set i 0, h.CGot.set i 0⟩
def za5u (h : zw0) (i : Int) : z72 := ⟨h.PHeight.get i, h.PTime.get i, h.PSaid.get i, h.PGot.get i⟩
def za5v (h : zw0) (i : Int) : z72 := ⟨h.CHeight.get i, h.CTime.get i, h.CSaid.get i, h.CGot.get i⟩
def zoq (w : Wld) : Wld × Reply :=
  if (zpw w.p w.clock).2.2 ≠ 0 then noW w (zpw w.p w.clock).2.2
  else ({ w with p := (zpw w.p w.clock).1, heads := zanb w.heads (zpw w.p w.clock).1 w.consumers }, ⟨0, (((zpw w.p w.clock).2.1.length : Nat) : Int)⟩)
def z5r (w : Wld) (i : Int) : Wld × Reply :=
  if (zf1 w.p i).2 ≠ 0 then noW w (zf1 w.p i).2
  else ({ w with p := (zf1 w.p i).1, consumers := zrn w.consumers i (zug (zf1 w.p i).1.Set (zf1 w.p i).1.Height w.clock), heads := zawl w.heads i }, ⟨0, (zf1 w.p i).1.Height⟩)
def z02 (w : Wld) (i : Int) : Wld × Reply :=
  if (endC w.clock (ze w.consumers i)).2 ≠ 0 then noW w (endC w.clock (ze w.consumers i)).2
  else ({ w with consumers := zrn w.consumers i (endC w.clock (ze w.consumers i)).1, heads := za5t w.heads i (endC w.clock (ze w.consumers i)).1 (w.p.Links.Got.get i) }, ⟨0, 0⟩)
def zabu (w : Wld) (i : Int) (back : Bool) : Wld × Reply :=
  if back = true then ({ w with p := { w.p with Links := zadq w.p.Links i (za5v w.heads i) } }, ⟨0, 0⟩)
  else ({ w with consumers := zrn w.consumers i { ze w.consumers i with Seen := za5u w.heads i } }, ⟨0, 0⟩)
def zake (n : Nat) : Packet := ⟨3, 1, 0, IntKind.i64.wrap (1 + (n : Int)), [], []⟩
def zakf (l : zes) : ByteArray := if l.Got < ((l.Said.length : Nat) : Int) then l.Said.getD l.Got.toNat .empty else (⟨#[]⟩ : ByteArray)
def zna (l : zes) (forged : Bool) : ByteArray := if forged = true then (zg8 (zake (zakf l).size)).1 else zakf l
def zgy (w : Wld) (i : Int) (back : Bool) : zes := if back = true then (ze w.consumers i).Out else (zv w.p.Links i).Out
def zabv (w : Wld) (i : Int) (back : Bool) : Int := if back = true then w.p.Links.SSaid.get i else w.consumers.SSaid.get i
def zp3 (w : Wld) (d : Deed) : zes × Int := zon (zgy w d.C d.Back) (IntKind.i64.wrap ((zgy w d.C d.Back).Got + 1)) (zna (zgy w d.C d.Back) d.Forged) (zabv w d.C d.Back) w.clock
def ztt (w : Wld) (d : Deed) : Wld × Reply :=
  if (zp3 w d).2 ≠ 0 then noW w (zp3 w d).2
  else if d.Back = true then
    (if (zss w.p d.C (zna (zgy w d.C d.Back) d.Forged).data.toList).2 ≠ 0 then noW w (zss w.p d.C (zna (zgy w d.C d.Back) d.Forged).data.toList).2
     else ({ w with p := (zss w.p d.C (zna (zgy w d.C d.Back) d.Forged).data.toList).1, consumers := zrn w.consumers d.C { ze w.consumers d.C with Out := (zp3 w d).1 } }, ⟨0, (zp3 w d).1.Got⟩))
  else (if (z0w (ze w.consumers d.C) (zna (zgy w d.C d.Back) d.Forged).data.toList).2 ≠ 0 then noW w (z0w (ze w.consumers d.C) (zna (zgy w d.C d.Back) d.Forged).data.toList).2
     else ({ w with p := { w.p with Links := z5q w.p.Links d.C (zp3 w d).1 }, consumers := zrn w.consumers d.C (z0w (ze w.consumers d.C) (zna (zgy w d.C d.Back) d.Forged).data.toList).1 }, ⟨0, (zp3 w d).1.Got⟩))
def zakg (w : Wld) (d : Deed) : zes × Int := if d.Back = true then z1h (ze w.consumers d.C).Out d.N (w.consumers.STime.get d.C) (w.consumers.SGot.get d.C) else z1h (zv w.p.Links d.C).Out d.N (w.p.Links.STime.get d.C) (w.p.Links.SGot.get d.C)
def zyv (w : Wld) (d : Deed) : Wld × Reply :=
  if (zakg w d).2 ≠ 0 then noW w (zakg w d).2 else ({ w with p := zwx w.p d.C, consumers := zrn w.consumers d.C (z1n (ze w.consumers d.C)) }, ⟨0, 0⟩)
def putW (w : Wld) (i : Int) (r : zb × Int) : Wld × Reply := if r.2 ≠ 0 then noW w r.2 else ({ w with consumers := zrn w.consumers i r.1 }, ⟨0, 0⟩)
def ztu (w : Wld) (d : Deed) : Wld × Reply :=
  if d.Kind < 4 ∨ 12 < d.Kind then noW w 3 else if d.C < 0 ∨ 2 ≤ d.C then noW w 4 else if d.Kind ≠ 4 ∧ w.consumers.On.get d.C = false then noW w 4
  else if d.Kind = 4 then z5r w d.C else if d.Kind = 7 then z02 w d.C else if d.Kind = 8 then zabu w d.C d.Back else if d.Kind = 9 then ztt w d else if d.Kind = 10 then zyv w d
  else if d.Kind = 11 then putW w d.C (zabf (ze w.consumers d.C) d.V w.clock) else if d.Kind = 12 then putW w d.C (z1m (ze w.consumers d.C) d.V d.N w.clock) else (w, ⟨0, 0⟩)
def zwe (w : Wld) (r : za × Int) : Wld × Reply := if r.2 ≠ 0 then noW w r.2 else ({ w with p := r.1 }, ⟨0, 0⟩)
def zafo (p : za) (v : Int) : za × Int := ({ p with Stake := (zdo p.Stake v 1).1 }, (zdo p.Stake v 1).2)
def zakh (w : Wld) (n : Int) : Wld × Reply := if n < 1 ∨ 1099511627736 - w.clock < n then noW w 2 else ({ w with clock := w.clock + n }, ⟨0, w.clock + n⟩)
def actW (w : Wld) (d : Deed) : Wld × Reply :=
  if d.Kind = 1 then zwe w (zgi w.p d.D d.V d.N) else if d.Kind = 2 then zwe w (zha w.p d.D d.V d.N w.clock) else if d.Kind = 3 then zwe w (zafo w.p d.V) else if d.Kind = 13 then zwe w (z5l w.p d.V d.N)
  else if d.Kind = 5 then zakh w d.N else if d.Kind = 6 then zoq w else ztu w d
def zd8 (w : Wld) : Wld := { w with deeds := w.deeds + 1 }
def doW (w : Wld) (d : Deed) : Wld × Reply := if 600 ≤ w.deeds then noW w 6 else actW (zd8 w) d
def newW : Wld := ⟨0, zabj, default, default, 0⟩
def Pk1 (s : ByteArray) : Prop := ∃ q, zgd q = 0 ∧ q.Kind = 1 ∧ s = txt (zyq q)
def PkB (s : ByteArray) : Prop := ∃ q, zgd q = 0 ∧ q.Kind ≠ 1 ∧ s = txt (zyq q)
structure ConsW (w : Wld) (i : Int) : Prop where
  good : zk2 (ze w.consumers i) = true
  height : (ze w.consumers i).Height ≤ w.deeds
  time : (ze w.consumers i).Time ≤ w.clock
  size : (((ze w.consumers i).Pending.length + (ze w.consumers i).Ripes.length : Nat) : Int) ≤ w.deeds
  on : (ze w.consumers i).On = w.p.Links.On.get i
  gone : (ze w.consumers i).Gone = w.p.Links.Gone.get i
  told : ∀ s, s ∈ (zv w.p.Links i).Out.Said → Pk1 s
  said : ∀ s, s ∈ (ze w.consumers i).Out.Said → PkB s
  fresh : w.p.Links.On.get i = false → w.p.Links.Gone.get i = false → ze w.consumers i = default ∧ (zv w.p.Links i).Out.Said = []
structure OkW (w : Wld) : Prop where
  d0 : 0 ≤ w.deeds
  d1 : w.deeds ≤ 600
  t0 : 0 ≤ w.clock
  t1 : w.clock ≤ 1099511627736
  p : GoodX w.p
  ph : w.p.Height ≤ w.deeds
  pt : w.p.Time ≤ w.clock
  pq : ((w.p.Queue.length : Nat) : Int) ≤ w.deeds
  c : ∀ i : Int, 0 ≤ i ∧ i < 2 → ConsW w i
theorem OkW.pr {w : Wld} (h : OkW w) : zat w.p = true := goodPr_iff.2 ⟨h.p, by have := h.ph; have := h.d1; omega⟩
theorem OkW.fit {w : Wld} (h : OkW w) : FitPr 140737488351232 w.p := fitX h.p (by omega) (by have := h.pq; have := h.d1; omega)
theorem zarr {c : zb} (h : zk2 c = true) {n : Nat} (hn : n ≤ 1000000) (hs : c.Pending.length + c.Ripes.length ≤ n) : FitC 140737488351232 c := by
  obtain ⟨g1, g2, g3, g4, g5⟩ := zdh h
  have e1 := zln g3 (by omega)
  have e2 : c.Out.Said.length = c.Out.Due.length := g2.1
  have e3 : c.Out.Said.length ≤ 400 := g2.2.1
  exact ⟨by omega, by omega, by omega, by omega, by omega, fun p hp => by have := z5n (z5h g5 p hp).1; omega⟩
theorem ConsW.fit {w : Wld} {i : Int} (h : ConsW w i) (hd : w.deeds ≤ 600) : FitC 140737488351232 (ze w.consumers i) :=
  zarr h.good (n := 600) (by omega) (by have := h.size; omega)
structure SameL (p q : za) (i : Int) : Prop where
  on : p.Links.On.get i = q.Links.On.get i
  gone : p.Links.Gone.get i = q.Links.Gone.get i
  said : (zv p.Links i).Out.Said = (zv q.Links i).Out.Said
theorem SameL.refl (p : za) (i : Int) : SameL p p i := ⟨rfl, rfl, rfl⟩
theorem SameL.of {p q : za} {i : Int} (h : zv p.Links i = zv q.Links i) : SameL p q i := ⟨congrArg Link.On h, congrArg Link.Gone h, by rw [h]⟩
theorem ConsW.more {w w' : Wld} {i : Int} (h : ConsW w i) (hc : ze w'.consumers i = ze w.consumers i) (hl : SameL w'.p w.p i) (hd : w.deeds ≤ w'.deeds) (ht : w.clock ≤ w'.clock) : ConsW w' i := by
  obtain ⟨e1, e2, e3⟩ := hl
  obtain ⟨a1, a2, a3, a4, a5, a6, a7, a8, a9⟩ := h
  refine ⟨by rw [hc]; exact a1, by rw [hc]; omega, by rw [hc]; omega, by rw [hc]; omega, by rw [hc, e1]; exact a5, by rw [hc, e2]; exact a6, by rw [e3]; exact a7, by rw [hc]; exact a8, ?_⟩
  rw [e1, e2, hc, e3]; exact a9
theorem zmj {w : Wld} (h : OkW w) (hd : w.deeds < 600) : OkW (zd8 w) :=
  ⟨by have := h.d0; show 0 ≤ w.deeds + 1; omega, by show w.deeds + 1 ≤ 600; omega, h.t0, h.t1, h.p, by have := h.ph; show w.p.Height ≤ w.deeds + 1; omega, h.pt, by have := h.pq; show ((w.p.Queue.length : Nat) : Int) ≤ w.deeds + 1; omega,
    fun i hi => (h.c i hi).more rfl (.refl _ _) (by show w.deeds ≤ w.deeds + 1; omega) (by exact Int.le_refl _)⟩
theorem zadr : OkW newW := by
  have g : GoodX zabj := (goodPr_iff.1 z7p).1
  refine ⟨by decide, by decide, by decide, by decide, g, by decide, by decide, by decide, fun i hi => ?_⟩
  have hc : ze newW.consumers i = default := by rcases (show i = 0 ∨ i = 1 by omega) with rfl | rfl <;> rfl
  have hl : zv newW.p.Links i = default := by rcases (show i = 0 ∨ i = 1 by omega) with rfl | rfl <;> rfl
  have e1 : newW.p.Links.On.get i = false := congrArg Link.On hl
  have e2 : newW.p.Links.Gone.get i = false := congrArg Link.Gone hl
  refine ⟨by rw [hc]; decide, by rw [hc]; decide, by rw [hc]; decide, by rw [hc]; decide, by rw [hc, e1]; rfl, by rw [hc, e2]; rfl, (by rw [hl]; intro s hs; cases hs), (by rw [hc]; intro s hs; cases hs), fun _ _ => ⟨hc, by rw [hl]; rfl⟩⟩
theorem z9u {w : Wld} (h : OkW w) {p : za} (hp : GoodX p) (hH : p.Height = w.p.Height) (hT : p.Time = w.p.Time) (hQ : p.Queue.length = w.p.Queue.length) (hl : ∀ i : Int, 0 ≤ i ∧ i < 2 → SameL p w.p i) : OkW { w with p := p } :=
  ⟨h.d0, h.d1, h.t0, h.t1, hp, by rw [hH]; exact h.ph, by rw [hT]; exact h.pt, by rw [hQ]; exact h.pq, fun i hi => (h.c i hi).more rfl (hl i hi) (Int.le_refl _) (Int.le_refl _)⟩
theorem z5s {p : za} (h : GoodX p) {s : Stake} (hs : GoodS s) : GoodX { p with Stake := s } := ⟨hs, h.2.1, h.2.2.1, h.2.2.2.1, h.2.2.2.2.1, h.2.2.2.2.2⟩
theorem z5t {w : Wld} (h : OkW w) {s : Stake} (hs : GoodS s) : OkW { w with p := { w.p with Stake := s } } := z9u h (z5s h.p hs) rfl rfl rfl fun _ _ => ⟨rfl, rfl, rfl⟩
theorem z03 {w : Wld} (h : OkW w) {r : za × Int} (hr : r.2 = 0 → OkW { w with p := r.1 }) : OkW (zwe w r).1 := by
  unfold zwe
  by_cases e : r.2 = 0
  · rw [if_neg (by simpa using e)]; exact hr e
  · rw [if_pos e]; exact h
theorem zabw {w : Wld} (h : OkW w) (d v n : Int) : OkW (zwe w (zgi w.p d v n)).1 := by
  refine z03 h fun h0 => ?_
  unfold zgi at h0 ⊢
  rw [if_pos h.pr] at h0 ⊢
  by_cases e : (zdj w.p.Stake d v n).2 = 0
  · rw [if_neg (by simpa using e)]; exact z5t h (z9n e)
  · rw [if_pos e] at h0; exact absurd h0 e
theorem zads {p : za} (h : GoodX p) : GoodX { p with Links := zafd p.Links } := by
  have hlk : ∀ j : Int, 0 ≤ j ∧ j < 2 → LkX { p with Links := zafd p.Links } j := by
    intro j hj
    obtain ⟨a1, a2, a3, a4, a5, a6⟩ := h.lk hj
    exact ⟨a1, a2, a3, a4, a5, a6⟩
  exact ⟨h.1, h.2.1, h.2.2.1, okLk_iff.2 (hlk 0 (by omega)), okLk_iff.2 (hlk 1 (by omega)), h.2.2.2.2.2⟩
theorem z6n {w : Wld} (h : OkW w) (d v k : Int) : OkW (zwe w (zha w.p d v k w.clock)).1 := by
  refine z03 h fun h0 => ?_
  unfold zha at h0 ⊢
  have ht : zat w.p = true ∧ 0 ≤ w.clock ∧ w.clock ≤ 1099511627776 := ⟨h.pr, h.t0, by have := h.t1; omega⟩
  rw [if_pos ht] at h0 ⊢
  by_cases e : (zck w.p.Stake d v k (zabk w.p w.clock)).2 = 0
  · rw [if_neg (by simpa using e)]
    have g := z5e e
    exact z9u h (z5s (zads h.p) g) rfl rfl rfl fun _ _ => ⟨rfl, rfl, rfl⟩
  · rw [if_pos e] at h0; exact absurd h0 e
theorem zag5 {w : Wld} (h : OkW w) (v : Int) : OkW (zwe w (zafo w.p v)).1 :=
  z03 h fun _ => z5t h (zts h.p.1 v (.inr (.inl rfl)))
theorem zanc {w : Wld} (h : OkW w) (v n : Int) : OkW (zwe w (z5l w.p v n)).1 := by
  refine z03 h fun h0 => ?_
  unfold z5l at h0 ⊢
  rw [if_neg (by rw [h.pr]; simp)] at h0 ⊢
  by_cases h1 : 0 ≤ v ∧ v < 6
  · rw [if_pos h1] at h0 ⊢
    by_cases h2 : 1 ≤ n ∧ n ≤ w.p.Height
    · rw [if_pos h2] at h0 ⊢
      by_cases h3 : w.p.Stake.Validators.Dead.get v = true
      · rw [if_pos h3] at h0; cases h0
      · rw [if_neg h3]; exact z5t h (zts (zwd h.p.1 v n 50) v (.inr (.inr rfl)))
    · rw [if_neg h2] at h0; cases h0
  · rw [if_neg h1] at h0; cases h0
theorem zand {w : Wld} (h : OkW w) (n : Int) : OkW (zakh w n).1 := by
  unfold zakh
  split
  · exact h
  · rename_i hn
    have := h.t0; have := h.t1; have := h.pt
    exact ⟨h.d0, h.d1, by show 0 ≤ w.clock + n; omega, by show w.clock + n ≤ _; omega, h.p, h.ph, by show w.p.Time ≤ w.clock + n; omega, h.pq, fun i hi => (h.c i hi).more rfl (.refl _ _) (Int.le_refl _) (by show w.clock ≤ w.clock + n; omega)⟩
end Go.Proofs.YtmakmlnfbdablaaGreat.Ab
namespace Go.Proofs.YtmakmlnfbdablaaGreat.Ab
open Go Go.RowKit
set_option linter.unusedVariables false
set_option linter.unusedSimpArgs false
theorem zafp {M : Int} (hM : 0 ≤ M) : ∀ {l : List Power}, (∀ q, q ∈ l → q.N ≤ M) → ∀ v, zd7 l v ≤ M
  | [], _, v => by simpa [zd7] using hM
  | q :: l, h, v => by
    simp only [zd7]
    split
    · exact h q (List.mem_cons_self ..)
    · exact zafp hM (fun q hq => h q (List.mem_cons_of_mem _ hq)) v
theorem zafq {M : Int} : ∀ {d : List Power} {v n : Int}, n ≤ M → (∀ q, q ∈ d → q.N ≤ M) → zaav d v n ≤ M
  | [], v, n, hn, _ => hn
  | q :: d, v, n, hn, h => by
    show zaav d v (if q.V = v then q.N else n) ≤ M
    refine zafq ?_ (fun q hq => h q (List.mem_cons_of_mem _ hq))
    split
    · exact h q (List.mem_cons_self ..)
    · exact hn
theorem zane {a d : List Power} (ha : zx 1 (-1) a = true) (hd : zx 0 (-1) d = true) : zx 1 (-1) (z4u a d) = true :=
  zam1 fun v => zafq (zafp (by omega) (fun q hq => (zou (by omega) ha (by omega) q hq).2.2.2) _) (fun q hq => (zou (by omega) hd (by omega) q hq).2.2.2)
structure zag6 (c : zb) : Prop where
  set : zx 1 (-1) c.Set = true
  ripes : c.Ripes.all zm8 = true
  id0 : 0 ≤ c.Id
  id1 : c.Id ≤ 1099511627776
theorem zaki {now : Int} (hn : 0 ≤ now ∧ now ≤ 1099511627776) {c : zb} (h : zag6 c) {p : Packet} (hp : zns p = true) : zag6 (zsr now c p) := by
  rw [z3b]
  obtain ⟨g1, g2, _⟩ := z5h (l := [p]) (by simp [hp]) p (by simp)
  have f := zov g1
  refine ⟨zane h.set f.2.2.2.2.2.2.2.2.1, ?_, by show 0 ≤ p.Id; omega, f.2.2.2.1⟩
  show (c.Ripes ++ [(⟨p.Id, IntKind.i64.wrap (now + 15)⟩ : Ripe)]).all zm8 = true
  rw [List.all_append, h.ripes]
  have : zm8 (⟨p.Id, IntKind.i64.wrap (now + 15)⟩ : Ripe) = true := by
    unfold zm8
    simp only [Bool.and_eq_true, decide_eq_true_eq]
    rw [zl (by omega) (by omega)]
    exact ⟨⟨f.2.2.1, f.2.2.2.1⟩, by omega⟩
  simp [this]
theorem z7t {now : Int} (hn : 0 ≤ now ∧ now ≤ 1099511627776) : ∀ {l : List Packet} {c : zb}, zag6 c → l.all zns = true → zag6 (l.foldl (zsr now) c)
  | [], _, h, _ => h
  | p :: l, c, h, hl => by
    rw [List.all_cons, Bool.and_eq_true] at hl
    exact z7t (c := zsr now c p) hn (zaki hn h hl.1) hl.2
def matP (r : Ripe) : Packet := ⟨2, r.Id, 0, 0, [], []⟩
def matT (r : Ripe) : ByteArray := txt (zyq (matP r))
theorem zabx {r : Ripe} (h : zm8 r = true) : zgd (matP r) = 0 := by
  unfold zm8 at h
  simp only [Bool.and_eq_true, decide_eq_true_eq] at h
  exact zajx h.1.1 h.1.2
theorem z5u {now : Int} (hn : 0 ≤ now ∧ now ≤ 1099511627776) : ∀ (rs : List Ripe) (c : zb), c.Ripes = rs → zer c.Out → rs.all zm8 = true →
    ∃ k, k ≤ rs.length ∧ zq8 now rs c = { c with Ripes := rs.drop k, Out := { c.Out with Said := c.Out.Said ++ (rs.take k).map matT, Due := c.Out.Due ++ List.replicate k (now + 40) } } ∧
      (∀ r, r ∈ rs.take k → r.Due ≤ now) ∧ (k = rs.length ∨ (∃ r, rs[k]? = some r ∧ now < r.Due) ∨ c.Out.Closed = true ∨ 400 ≤ c.Out.Said.length + k) ∧ c.Out.Said.length + k ≤ 400
  | [], c, hr, hg, _ => ⟨0, Nat.le_refl _, by
      show c = { c with Ripes := [], Out := { c.Out with Said := c.Out.Said ++ [], Due := c.Out.Due ++ [] } }
      rw [List.append_nil, List.append_nil, ← hr], by simp, .inl rfl, by have : c.Out.Said.length ≤ 400 := hg.2.1; omega⟩
  | r :: rs, c, hr, hg, ha => by
    have h400 : c.Out.Said.length ≤ 400 := hg.2.1
    rw [List.all_cons, Bool.and_eq_true] at ha
    have hstop : (r.Due ≤ now → c.Out.Closed = true ∨ 400 ≤ c.Out.Said.length) → zq8 now (r :: rs) c = c → ∃ k, k ≤ (r :: rs).length ∧ zq8 now (r :: rs) c = { c with Ripes := (r :: rs).drop k, Out := { c.Out with Said := c.Out.Said ++ ((r :: rs).take k).map matT, Due := c.Out.Due ++ List.replicate k (now + 40) } } ∧
        (∀ q, q ∈ (r :: rs).take k → q.Due ≤ now) ∧ (k = (r :: rs).length ∨ (∃ q, (r :: rs)[k]? = some q ∧ now < q.Due) ∨ c.Out.Closed = true ∨ 400 ≤ c.Out.Said.length + k) ∧ c.Out.Said.length + k ≤ 400 := by
      intro h1 h2
      refine ⟨0, Nat.zero_le _, by rw [h2]; simp [← hr], by simp, ?_, by omega⟩
      by_cases hd : r.Due ≤ now
      · rcases h1 hd with k | k
        · exact .inr (.inr (.inl k))
        · exact .inr (.inr (.inr (by omega)))
      · exact .inr (.inl ⟨r, rfl, by omega⟩)
    by_cases hd : r.Due ≤ now
    · by_cases hc : c.Out.Closed = true ∨ 400 ≤ c.Out.Said.length
      · refine hstop (fun _ => hc) ?_
        have e0 : (zum ⟨2, r.Id, 0, 0, [], []⟩ now c).1 ≠ 0 := by
          intro e
          obtain ⟨_, k, _⟩ := zajw e
          obtain ⟨_, _, k1, k2, _⟩ := zadh k
          rcases hc with hc | hc
          · rw [hc] at k1; cases k1
          · omega
        unfold zq8
        rw [if_pos hd, if_pos e0]
      · have hc1 : c.Out.Closed = false := Bool.eq_false_iff.2 (fun h => hc (.inl h))
        have hc2 : c.Out.Said.length < 400 := by have : ¬ 400 ≤ c.Out.Said.length := fun h => hc (.inr h); omega
        have hw : IntKind.i64.wrap (now + 40) = now + 40 := zl (by omega) (by omega)
        have hs := zamy (p := matP r) (now := now) (c := c) (zabx ha.1) hg (by rw [hw]; omega) hc1 hc2
        rw [hw] at hs
        obtain ⟨c', hc'⟩ : ∃ c' : zb, c' = { c with Ripes := rs, Out := { c.Out with Said := c.Out.Said ++ [matT r], Due := c.Out.Due ++ [now + 40] } } := ⟨_, rfl⟩
        have hstep : zq8 now (r :: rs) c = zq8 now rs c' := by
          have hs' : zum ⟨2, r.Id, 0, 0, [], []⟩ now c = _ := hs
          rw [zq8, if_pos hd, hs', if_neg (by simp), hc']
          rfl
        have hg' : zer c'.Out := by rw [hc']; exact z7n hg (by omega) hc2
        obtain ⟨k, k1, k2, k3, k4, k5⟩ := z5u hn rs c' (by rw [hc']) hg' ha.2
        have l1 : c'.Out.Said.length = c.Out.Said.length + 1 := by rw [hc']; simp
        refine ⟨k + 1, by simp only [List.length_cons]; omega, ?_, ?_, ?_, by omega⟩
        · rw [hstep, k2, hc']
          simp only [List.drop_succ_cons, List.take_succ_cons, List.map_cons, List.append_assoc, List.singleton_append, List.replicate_succ]
        · intro q hq
          rw [List.take_succ_cons] at hq
          rcases List.mem_cons.1 hq with rfl | hq
          · exact hd
          · exact k3 q hq
        · rcases k4 with k4 | k4 | k4 | k4
          · exact .inl (by simp only [List.length_cons]; omega)
          · exact .inr (.inl (by simpa using k4))
          · exact .inr (.inr (.inl (by rw [hc'] at k4; exact k4)))
          · exact .inr (.inr (.inr (by omega)))
    · exact hstop (fun h => absurd h hd) (by unfold zq8; rw [if_neg hd])
theorem zag7 {l : zes} (h : zer l) {t : List ByteArray} {n u : Int} (hu : 0 ≤ u) (hl : l.Said.length + t.length ≤ 400) : zer { l with Said := l.Said ++ t, Due := l.Due ++ List.replicate t.length u } := by
  obtain ⟨g1, g2, g3, g4, g5⟩ := h
  refine ⟨by simp [g1], by simp only [List.length_append]; omega, g3, by simp only [List.length_append]; omega, ?_⟩
  simp only [List.any_append, g5, Bool.false_or]
  rw [List.any_eq_false]
  intro x hx
  rw [List.eq_of_mem_replicate hx]
  simp only [decide_eq_true_eq]; omega
theorem zag8 {now : Int} {c : zb} (hg : zk2 c = true) (ho : c.On = true) (ht : c.Time ≤ now ∧ now ≤ 1099511627776) (hh : c.Height + 1 < 1099511627776) :
    (endC now c).2 = 0 ∧ ∃ m k, m = c.Pending.foldl (zsr now) { c with Height := c.Height + 1, Time := now } ∧ zag6 m ∧ m.Ripes.length = c.Ripes.length + c.Pending.length ∧ k ≤ m.Ripes.length ∧
      (endC now c).1 = { m with Pending := [], Ripes := m.Ripes.drop k, Out := { c.Out with Said := c.Out.Said ++ (m.Ripes.take k).map matT, Due := c.Out.Due ++ List.replicate k (now + 40) } } ∧
      m.On = c.On ∧ m.Gone = c.Gone ∧ m.Height = c.Height + 1 ∧ m.Time = now ∧ m.Out = c.Out ∧ (∀ r, r ∈ m.Ripes.take k → r.Due ≤ now) ∧
      (k = m.Ripes.length ∨ (∃ r, m.Ripes[k]? = some r ∧ now < r.Due) ∨ c.Out.Closed = true ∨ 400 ≤ c.Out.Said.length + k) ∧ c.Out.Said.length + k ≤ 400 ∧ zk2 (endC now c).1 = true := by
  obtain ⟨g1, g2, g3, g4, g5⟩ := zdh hg
  have hw : IntKind.i64.wrap (c.Height + 1) = c.Height + 1 := zl (by have := g1.2; omega) (by have := g1.2; omega)
  have hn0 : 0 ≤ now := by have := g1.2.2.2.1; omega
  have he := zamz (now := now) hg ho ht.1 ht.2
  rw [hw] at he
  obtain ⟨m, hm⟩ : ∃ m, m = c.Pending.foldl (zsr now) { c with Height := c.Height + 1, Time := now } := ⟨_, rfl⟩
  rw [← hm] at he
  have hpm : zag6 m := by rw [hm]; exact z7t ⟨hn0, ht.2⟩ ⟨g3, g4, g1.2.2.2.2.2.1, g1.2.2.2.2.2.2⟩ g5
  obtain ⟨f1, f2, f3, f4, f5, f6⟩ := zx2 (now := now) c.Pending { c with Height := c.Height + 1, Time := now }
  rw [← hm] at f1 f2 f3 f4 f5 f6
  obtain ⟨k, k1, k2, k3, k4, k5⟩ := z5u (now := now) ⟨hn0, ht.2⟩ m.Ripes { m with Pending := [] } rfl (by show zer m.Out; rw [f2]; exact g2) hpm.ripes
  replace f2 : m.Out = c.Out := f2
  simp only [f2] at k4 k5
  have hfin : (endC now c).1 = { m with Pending := [], Ripes := m.Ripes.drop k, Out := { c.Out with Said := c.Out.Said ++ (m.Ripes.take k).map matT, Due := c.Out.Due ++ List.replicate k (now + 40) } } := by
    rw [he]
    show zq8 now m.Ripes { m with Pending := [] } = _
    rw [k2]
    simp only [f2]
  refine ⟨by rw [he], m, k, hm, hpm, f1, k1, hfin, f3, f4, f5, f6, f2, k3, k4, k5, ?_⟩
  rw [hfin]
  have hl : ((m.Ripes.take k).map matT).length = k := by rw [List.length_map, List.length_take]; omega
  refine zq9 ⟨by show (m.On && m.Gone) = false; rw [f3, f4]; exact g1.1, by show 0 ≤ m.Height; rw [f5]; show 0 ≤ c.Height + 1; have := g1.2; omega, ?_, by show 0 ≤ m.Time; rw [f6]; exact hn0, by show m.Time ≤ _; rw [f6]; exact ht.2, hpm.id0, hpm.id1⟩ ?_ hpm.set ?_ rfl
  · show m.Height < _; rw [f5]; show c.Height + 1 < _
    exact hh
  · have := zag7 (n := 0) g2 (t := (m.Ripes.take k).map matT) (u := now + 40) (by omega) (by rw [hl]; exact k5)
    rw [hl] at this
    exact this
  · show (m.Ripes.drop k).all zm8 = true
    rw [List.all_eq_true]
    intro r hr
    exact List.all_eq_true.1 hpm.ripes r (List.mem_of_mem_drop hr)
end Go.Proofs.YtmakmlnfbdablaaGreat.Ab
namespace Go.Proofs.YtmakmlnfbdablaaGreat.Ab
open Go Go.RowKit
set_option linter.unusedVariables false
set_option linter.unusedSimpArgs false
theorem z5v {w w' : Wld} (h : OkW w) (hd : w.deeds < 600) (e1 : w'.deeds = w.deeds + 1) (e2 : w'.clock = w.clock) (p : GoodX w'.p) (ph : w'.p.Height ≤ w.deeds + 1) (pt : w'.p.Time ≤ w.clock) (pq : ((w'.p.Queue.length : Nat) : Int) ≤ w.deeds + 1)
    {i : Int} (ci : ConsW w' i) (cj : ∀ j : Int, 0 ≤ j ∧ j < 2 → j ≠ i → ze w'.consumers j = ze w.consumers j ∧ SameL w'.p w.p j) : OkW w' := by
  have d0 := h.d0
  refine ⟨by omega, by omega, by rw [e2]; exact h.t0, by rw [e2]; exact h.t1, p, by omega, by omega, by omega, fun j hj => ?_⟩
  by_cases e : j = i
  · rw [e]; exact ci
  · obtain ⟨c1, c2⟩ := cj j hj e
    exact (h.c j hj).more c1 c2 (by omega) (by omega)
theorem z9v {w w' : Wld} (h : OkW w) (hd : w.deeds < 600) (e1 : w'.deeds = w.deeds + 1) (e2 : w'.clock = w.clock) (e3 : w'.p = w.p) {i : Int} (hi : 0 ≤ i ∧ i < 2) {c : zb} (hc : w'.consumers = zrn w.consumers i c)
    (good : zk2 c = true) (height : c.Height ≤ w.deeds + 1) (time : c.Time ≤ w.clock) (size : ((c.Pending.length + c.Ripes.length : Nat) : Int) ≤ w.deeds + 1) (on : c.On = (ze w.consumers i).On) (gone : c.Gone = (ze w.consumers i).Gone)
    (said : ∀ s, s ∈ c.Out.Said → PkB s) (ho : (ze w.consumers i).On = true) : OkW w' := by
  have hw := h.c i hi
  have hci : ze w'.consumers i = c := by rw [hc, zpy hi]
  refine z5v (i := i) h hd e1 e2 (by rw [e3]; exact h.p) (by rw [e3]; have := h.ph; omega) (by rw [e3]; exact h.pt) (by rw [e3]; have := h.pq; omega) ?_ fun j hj hji => ⟨by rw [hc, zm9 hi hj hji], by rw [e3]; exact .refl _ _⟩
  have on' : w.p.Links.On.get i = true := by rw [← hw.on]; exact ho
  refine ⟨by rw [hci]; exact good, by rw [hci, e1]; exact height, by rw [hci, e2]; exact time, by rw [hci, e1]; exact size, by rw [hci, e3, on]; exact hw.on, by rw [hci, e3, gone]; exact hw.gone, by rw [e3]; exact hw.told, by rw [hci]; exact said, fun k => ?_⟩
  rw [e3, on'] at k; cases k
theorem zakj {a b : ByteArray} (h : a.toList = b.toList) : a = b := by
  rw [ByteArray.toList_eq, ByteArray.toList_eq] at h
  obtain ⟨⟨a⟩⟩ := a
  obtain ⟨⟨b⟩⟩ := b
  simp only at h
  rw [h]
theorem zars {r : Ripe} (h : zm8 r = true) : PkB (matT r) := ⟨matP r, zabx h, by unfold matP; simp, rfl⟩
theorem zadt {w : Wld} (h : OkW w) (hd : w.deeds < 600) {i : Int} (hi : 0 ≤ i ∧ i < 2) (ho : (ze w.consumers i).On = true) : OkW (z02 (zd8 w) i).1 := by
  have hc := h.c i hi
  have h1 := h.t1
  have hh := hc.height
  obtain ⟨e0, m, k, hm, hpm, hl, hk, hf, f1, f2, f3, f4, f5, f6, f7, f8, hg⟩ := zag8 hc.good ho ⟨hc.time, by omega⟩ (by omega)
  unfold z02
  rw [if_neg (by show ¬ (endC w.clock (ze w.consumers i)).2 ≠ 0; rw [e0]; simp)]
  refine z9v h hd rfl rfl rfl hi (c := (endC w.clock (ze w.consumers i)).1) rfl hg ?_ ?_ ?_ ?_ ?_ ?_ ho
  all_goals rw [hf]
  · show m.Height ≤ _; rw [f3]; omega
  · show m.Time ≤ _; rw [f4]; omega
  · have := hc.size
    simp only [List.length_nil, List.length_drop]
    omega
  · exact f1
  · exact f2
  · intro s hs
    rcases List.mem_append.1 hs with hs | hs
    · exact hc.said s hs
    · obtain ⟨r, hr, rfl⟩ := List.mem_map.1 hs
      exact zars (List.all_eq_true.1 hpm.ripes r (List.mem_of_mem_take hr))
theorem zakk {c : zb} (hg : zk2 c = true) {q : Packet} (hq : q.Kind ≠ 1) {now : Int} (h : (zum q now c).1 = 0) :
    zgd q = 0 ∧ 0 ≤ IntKind.i64.wrap (now + 40) ∧ c.Out.Closed = false ∧ c.Out.Said.length < 400 ∧ (zum q now c).2 = { c with Out := { c.Out with Said := c.Out.Said ++ [txt (zyq q)], Due := c.Out.Due ++ [IntKind.i64.wrap (now + 40)] } } ∧ zk2 (zum q now c).2 = true := by
  obtain ⟨k1, k2, k3⟩ := zajw h
  obtain ⟨l1, l2, l3, l4, _⟩ := zadh k2
  obtain ⟨g1, g2, g3, g4, g5⟩ := zdh hg
  refine ⟨k1, l2, l3, l4, by rw [k3], ?_⟩
  rw [k3]
  exact zq9 g1 (z7n l1 l2 l4) g3 g4 g5
theorem zakl {w w' : Wld} (h : OkW w) (hd : w.deeds < 600) (e1 : w'.deeds = w.deeds + 1) (e2 : w'.clock = w.clock) (e3 : w'.p = w.p) {i : Int} (hi : 0 ≤ i ∧ i < 2) (ho : (ze w.consumers i).On = true) {q : Packet} (hq : q.Kind ≠ 1) (hs : (zum q w.clock (ze w.consumers i)).1 = 0) {f : A6 Bool}
    (hc : w'.consumers = zrn w.consumers i { (zum q w.clock (ze w.consumers i)).2 with Flags := f }) : OkW w' := by
  have hw := h.c i hi
  obtain ⟨s1, s2, s3, s4, s5, s6⟩ := zakk hw.good hq hs
  obtain ⟨g1, g2, g3, g4, g5⟩ := zdh s6
  have hz := hw.size; have hh := hw.height; have ht := hw.time
  refine z9v h hd e1 e2 e3 hi hc (zq9 g1 g2 g3 g4 g5) ?_ ?_ ?_ ?_ ?_ ?_ ho
  all_goals rw [s5]
  · show (ze w.consumers i).Height ≤ _; omega
  · exact ht
  · show (((ze w.consumers i).Pending.length + (ze w.consumers i).Ripes.length : Nat) : Int) ≤ _; omega
  · intro s hs
    rcases List.mem_append.1 hs with hs | hs
    · exact hw.said s hs
    · rw [List.mem_singleton.1 hs]; exact ⟨q, s1, hq, rfl⟩
theorem zafr {w : Wld} (h : OkW w) (hd : w.deeds < 600) {i : Int} {r : zb × Int} (hr : r.2 = 0 → OkW { zd8 w with consumers := zrn w.consumers i r.1 }) : OkW (putW (zd8 w) i r).1 := by
  unfold putW
  by_cases e : r.2 = 0
  · rw [if_neg (by simpa using e)]; exact hr e
  · rw [if_pos e]; exact zmj h hd
theorem zanf {w : Wld} (h : OkW w) (hd : w.deeds < 600) {i : Int} (hi : 0 ≤ i ∧ i < 2) (ho : (ze w.consumers i).On = true) (v : Int) : OkW (putW (zd8 w) i (zabf (ze w.consumers i) v w.clock)).1 := by
  refine zafr h hd fun h0 => ?_
  obtain ⟨_, _, _, _, _, _, _, hs, he⟩ := zam0 h0
  rw [he]
  exact zakl h hd rfl rfl rfl hi ho (by simp) hs rfl
theorem zag9 {w : Wld} (h : OkW w) (hd : w.deeds < 600) {i : Int} (hi : 0 ≤ i ∧ i < 2) (ho : (ze w.consumers i).On = true) (v n : Int) : OkW (putW (zd8 w) i (z1m (ze w.consumers i) v n w.clock)).1 := by
  refine zafr h hd fun h0 => ?_
  unfold z1m at h0 ⊢
  by_cases h1 : zk2 (ze w.consumers i) = false ∨ w.clock < 0 ∨ 1099511627776 < w.clock
  · rw [if_pos h1] at h0; cases h0
  rw [if_neg h1] at h0 ⊢
  by_cases h2 : (ze w.consumers i).On = false ∨ v < 0 ∨ 5 < v
  · rw [if_pos h2] at h0; cases h0
  rw [if_neg h2] at h0 ⊢
  by_cases h3 : n < 1 ∨ (ze w.consumers i).Id < n
  · rw [if_pos h3] at h0; cases h0
  rw [if_neg h3] at h0 ⊢
  exact zakl h hd rfl rfl rfl hi ho (q := ⟨4, n, v, maxC (ze w.consumers i) v, [], []⟩) (by simp) h0 (f := (zum ⟨4, n, v, maxC (ze w.consumers i) v, [], []⟩ w.clock (ze w.consumers i)).2.Flags) rfl
theorem zaha {p : za} (h : GoodX p) {i : Int} (hi : 0 ≤ i ∧ i < 2) {l : zes} (hl : zer l) : GoodX { p with Links := z5q p.Links i l } := by
  have hlk : ∀ j : Int, 0 ≤ j ∧ j < 2 → LkX { p with Links := z5q p.Links i l } j := by
    intro j hj
    obtain ⟨a1, a2, a3, a4, a5, a6⟩ := h.lk hj
    refine ⟨a1, a2, a3, a4, ?_, a6⟩
    rw [zyu, z1r hi hj]
    split
    · exact hl
    · exact a5
  exact ⟨h.1, h.2.1, h.2.2.1, okLk_iff.2 (hlk 0 (by omega)), okLk_iff.2 (hlk 1 (by omega)), h.2.2.2.2.2⟩
theorem zahb {p : za} (h : GoodX p) (i : Int) (s : z72) : GoodX { p with Links := zadq p.Links i s } := by
  have hlk : ∀ j : Int, 0 ≤ j ∧ j < 2 → LkX { p with Links := zadq p.Links i s } j := by
    intro j hj
    obtain ⟨a1, a2, a3, a4, a5, a6⟩ := h.lk hj
    exact ⟨a1, a2, a3, a4, a5, a6⟩
  exact ⟨h.1, h.2.1, h.2.2.1, okLk_iff.2 (hlk 0 (by omega)), okLk_iff.2 (hlk 1 (by omega)), h.2.2.2.2.2⟩
theorem zakm {w : Wld} (h : OkW w) (hd : w.deeds < 600) {i : Int} (hi : 0 ≤ i ∧ i < 2) (ho : (ze w.consumers i).On = true) (back : Bool) : OkW (zabu (zd8 w) i back).1 := by
  unfold zabu
  have hw := h.c i hi
  cases back with
  | true =>
    rw [if_pos rfl]
    refine z9u (zmj h hd) (zahb h.p i _) rfl rfl rfl fun j hj => ⟨rfl, rfl, ?_⟩
    rfl
  | false =>
    rw [if_neg (by simp)]
    obtain ⟨g1, g2, g3, g4, g5⟩ := zdh hw.good
    have hz := hw.size; have hh := hw.height
    exact z9v h hd rfl rfl rfl hi rfl (zq9 g1 g2 g3 g4 g5) (by show (ze w.consumers i).Height ≤ _; omega) hw.time (by show (((ze w.consumers i).Pending.length + (ze w.consumers i).Ripes.length : Nat) : Int) ≤ _; omega) rfl rfl hw.said ho
theorem zahc {w : Wld} {d : Deed} (h : (zp3 w d).2 = 0) : zer (zgy w d.C d.Back) ∧ (zgy w d.C d.Back).Closed = false ∧ (zgy w d.C d.Back).Got + 1 ≤ ((zgy w d.C d.Back).Said.length : Int) ∧ (zgy w d.C d.Back).Got + 1 ≤ zabv w d.C d.Back ∧
    zna (zgy w d.C d.Back) d.Forged = (zgy w d.C d.Back).Said.getD (zgy w d.C d.Back).Got.toNat .empty ∧ w.clock < (zgy w d.C d.Back).Due.getD (zgy w d.C d.Back).Got.toNat 0 ∧
    (zp3 w d).1 = { zgy w d.C d.Back with Got := (zgy w d.C d.Back).Got + 1 } ∧ zer (zp3 w d).1 := by
  have hs : (zgy w d.C d.Back).Got + 1 ≤ zabv w d.C d.Back := by
    unfold zp3 zon at h
    by_cases h1 : ¬ zer (zgy w d.C d.Back)
    · rw [if_pos h1] at h; cases h
    rw [if_neg h1] at h
    have hl := Classical.not_not.1 h1
    have e4 : (zgy w d.C d.Back).Said.length ≤ 400 := hl.2.1
    have hw : IntKind.i64.wrap ((zgy w d.C d.Back).Got + 1) = (zgy w d.C d.Back).Got + 1 := zl (by have := hl.2.2.1; omega) (by have := hl.2.2.2.1; omega)
    rw [hw] at h
    by_cases h2 : (zgy w d.C d.Back).Closed = true
    · rw [if_pos h2] at h; cases h
    rw [if_neg h2, if_neg (by simp)] at h
    by_cases h3 : zabv w d.C d.Back < (zgy w d.C d.Back).Got + 1 ∨ ((zgy w d.C d.Back).Said.length : Int) < (zgy w d.C d.Back).Got + 1 ∨ ((zgy w d.C d.Back).Said.getD (zgy w d.C d.Back).Got.toNat .empty).toList ≠ (zna (zgy w d.C d.Back) d.Forged).toList
    · rw [if_pos h3] at h; cases h
    · simp only [not_or] at h3; omega
  obtain ⟨h1, h2, h3, h4, h5, h6, h7⟩ := zagd h
  have e4 : (zgy w d.C d.Back).Said.length ≤ 400 := h1.2.1
  have hw : IntKind.i64.wrap ((zgy w d.C d.Back).Got + 1) = (zgy w d.C d.Back).Got + 1 := zl (by have := h1.2.2.1; omega) (by have := h1.2.2.2.1; omega)
  rw [hw] at h4
  have he : (zp3 w d).1 = { zgy w d.C d.Back with Got := (zgy w d.C d.Back).Got + 1 } := by
    unfold zp3
    rw [h7, hw]
  refine ⟨h1, Bool.eq_false_iff.2 h2, h4, hs, ?_, h6, he, ?_⟩
  · exact (zakj h5).symm
  · rw [he]
    obtain ⟨g1, g2, g3, g4, g5⟩ := h1
    exact ⟨g1, g2, by show 0 ≤ (zgy w d.C d.Back).Got + 1; omega, h4, g5⟩
end Go.Proofs.YtmakmlnfbdablaaGreat.Ab
namespace Go.Proofs.YtmakmlnfbdablaaGreat.Ab
open Go Go.RowKit
set_option linter.unusedVariables false
set_option linter.unusedSimpArgs false
theorem zadu {c : zb} (hg : zk2 c = true) {s : List UInt8} (h : (z0w c s).2 = 0) : c.On = true ∧ zgd (zbe s).1 = 0 ∧ (zbe s).1.Kind = 1 ∧ (zbe s).2 = 0 ∧ (z0w c s).1 = { c with Pending := c.Pending ++ [(zbe s).1] } ∧ zk2 (z0w c s).1 = true := by
  unfold z0w at h ⊢
  rw [if_neg (by rw [hg]; simp)] at h ⊢
  by_cases h1 : c.On = false
  · rw [if_pos h1] at h; cases h
  rw [if_neg h1] at h ⊢
  by_cases h2 : (zbe s).2 = 0
  · rw [if_neg (by simpa using h2)] at h ⊢
    by_cases h3 : (zbe s).1.Kind = 1
    · rw [if_neg (by simpa using h3)]
      have gp := zafm h2
      refine ⟨by simpa using h1, gp, h3, h2, rfl, ?_⟩
      obtain ⟨g1, g2, g3, g4, g5⟩ := zdh hg
      refine zq9 g1 g2 g3 g4 ?_
      show (c.Pending ++ [(zbe s).1]).all zns = true
      rw [List.all_append, g5]
      simp [zns, gp, h3]
    · rw [if_pos h3] at h; cases h
  · rw [if_pos h2] at h; exact absurd h h2
theorem zaby {p : za} (hg : zat p = true) {i : Int} {s : List UInt8} (h : (zss p i s).2 = 0) : (0 ≤ i ∧ i < 2) ∧ p.Links.On.get i = true ∧ zgd (zbe s).1 = 0 ∧ (zbe s).1.Kind ≠ 1 ∧ (zbe s).2 = 0 ∧ (zss p i s).1 = { p with Queue := p.Queue ++ [⟨i, (zbe s).1⟩] } ∧ GoodX (zss p i s).1 := by
  unfold zss at h ⊢
  rw [if_neg (by rw [hg]; simp)] at h ⊢
  by_cases h1 : (0 ≤ i ∧ i < 2) ∧ p.Links.On.get i = true
  · rw [if_pos h1] at h ⊢
    by_cases h2 : (zbe s).2 = 0
    · rw [if_neg (by simpa using h2)] at h ⊢
      by_cases h3 : (zbe s).1.Kind = 1
      · rw [if_pos h3] at h; cases h
      · rw [if_neg h3]
        have gp := zafm h2
        have hx := (goodPr_iff.1 hg).1
        refine ⟨h1.1, h1.2, gp, h3, h2, rfl, hx.1, hx.2.1, hx.2.2.1, hx.2.2.2.1, hx.2.2.2.2.1, ?_⟩
        show (p.Queue ++ [_]).all _ = true
        rw [List.all_append, Bool.and_eq_true]
        refine ⟨hx.2.2.2.2.2, List.all_eq_true.2 fun b hb => ?_⟩
        rw [List.mem_singleton.1 hb]
        exact ask_iff.2 ⟨h1.1, h1.2, gp, h3⟩
    · rw [if_pos h2] at h; exact absurd h h2
  · rw [if_neg h1] at h; cases h
theorem zadv {w : Wld} (h : OkW w) (hd : w.deeds < 600) {d : Deed} (hi : 0 ≤ d.C ∧ d.C < 2) (ho : (ze w.consumers d.C).On = true) : OkW (ztt (zd8 w) d).1 := by
  have hw := h.c d.C hi
  unfold ztt
  by_cases h0 : (zp3 w d).2 = 0
  · rw [if_neg (by show ¬ (zp3 w d).2 ≠ 0; simpa using h0)]
    obtain ⟨f1, f2, f3, f4, f5, f6, f7, f8⟩ := zahc h0
    cases hb : d.Back with
    | true =>
      rw [if_pos rfl]
      rw [hb] at f5
      have e0 : zgy w d.C true = (ze w.consumers d.C).Out := rfl
      by_cases h1 : (zss w.p d.C (zna (zgy w d.C true) d.Forged).data.toList).2 = 0
      · rw [if_neg (by show ¬ (zss w.p d.C (zna (zgy w d.C true) d.Forged).data.toList).2 ≠ 0; simpa using h1)]
        obtain ⟨q1, q2, q3, q4, q5, q6, q7⟩ := zaby h.pr h1
        obtain ⟨g1, g2, g3, g4, g5⟩ := zdh hw.good
        have hz := hw.size; have hh := hw.height; have hp := h.ph; have hq := h.pq
        have hr : (zp3 w d).1 = { (ze w.consumers d.C).Out with Got := (ze w.consumers d.C).Out.Got + 1 } := by rw [f7, hb]; rfl
        have e6 : (zss (zd8 w).p d.C (zna (zgy (zd8 w) d.C true) d.Forged).data.toList).1 = { w.p with Queue := w.p.Queue ++ [⟨d.C, (zbe (zna (zgy w d.C true) d.Forged).data.toList).1⟩] } := q6
        simp only [e6]
        refine z5v (i := d.C) h hd rfl rfl (by rw [← q6]; exact q7) (by show w.p.Height ≤ _; omega) h.pt (by show (((w.p.Queue ++ [_]).length : Nat) : Int) ≤ _; rw [List.length_append, List.length_singleton]; omega) ?_ fun j hj hji => ⟨zm9 hi hj hji _, rfl, rfl, rfl⟩
        have hci : ze (zrn (zd8 w).consumers d.C { ze (zd8 w).consumers d.C with Out := (zp3 (zd8 w) d).1 }) d.C = { ze w.consumers d.C with Out := (zp3 w d).1 } := zpy hi _
        refine ⟨?_, ?_, ?_, ?_, ?_, ?_, hw.told, ?_, fun k => ?_⟩
        · rw [hci]; exact zq9 g1 f8 g3 g4 g5
        · rw [hci]; show (ze w.consumers d.C).Height ≤ w.deeds + 1; omega
        · rw [hci]; exact hw.time
        · rw [hci]; show (((ze w.consumers d.C).Pending.length + (ze w.consumers d.C).Ripes.length : Nat) : Int) ≤ w.deeds + 1; omega
        · rw [hci]; exact hw.on
        · rw [hci]; exact hw.gone
        · rw [hci]; show ∀ s, s ∈ (zp3 w d).1.Said → PkB s; rw [hr]; exact hw.said
        · have k' : w.p.Links.On.get d.C = false := k
          rw [q2] at k'; cases k'
      · rw [if_pos (by exact h1)]; exact zmj h hd
    | false =>
      rw [if_neg (by simp)]
      rw [hb] at f5
      by_cases h1 : (z0w (ze w.consumers d.C) (zna (zgy w d.C false) d.Forged).data.toList).2 = 0
      · rw [if_neg (by show ¬ (z0w (ze w.consumers d.C) (zna (zgy w d.C false) d.Forged).data.toList).2 ≠ 0; simpa using h1)]
        obtain ⟨q1, q2, q3, q4, q5, q6⟩ := zadu hw.good h1
        have hz := hw.size; have hh := hw.height; have hp := h.ph; have hq := h.pq
        have hr : (zp3 w d).1 = { (zv w.p.Links d.C).Out with Got := (zv w.p.Links d.C).Out.Got + 1 } := by rw [f7, hb]; rfl
        have on' : w.p.Links.On.get d.C = true := by rw [← hw.on]; exact ho
        refine z5v (i := d.C) h hd rfl rfl (zaha h.p hi f8) (by show w.p.Height ≤ _; omega) h.pt (by show ((w.p.Queue.length : Nat) : Int) ≤ _; omega) ?_ fun j hj hji => ⟨zm9 hi hj hji _, rfl, rfl, ?_⟩
        · have hci : ze (zrn (zd8 w).consumers d.C (z0w (ze (zd8 w).consumers d.C) (zna (zgy (zd8 w) d.C false) d.Forged).data.toList).1) d.C = (z0w (ze w.consumers d.C) (zna (zgy w d.C false) d.Forged).data.toList).1 := zpy hi _
          refine ⟨?_, ?_, ?_, ?_, ?_, ?_, ?_, ?_, fun k => ?_⟩
          · rw [hci]; exact q6
          · rw [hci, q5]; show (ze w.consumers d.C).Height ≤ w.deeds + 1; omega
          · rw [hci, q5]; exact hw.time
          · rw [hci, q5]
            show ((((ze w.consumers d.C).Pending ++ [_]).length + (ze w.consumers d.C).Ripes.length : Nat) : Int) ≤ w.deeds + 1
            rw [List.length_append, List.length_singleton]; omega
          · rw [hci, q5]; exact hw.on
          · rw [hci, q5]; exact hw.gone
          · show ∀ s, s ∈ (zv (z5q w.p.Links d.C (zp3 w d).1) d.C).Out.Said → Pk1 s
            rw [z1r hi hi, if_pos rfl, hr]; exact hw.told
          · rw [hci, q5]; exact hw.said
          · have k' : w.p.Links.On.get d.C = false := k
            rw [on'] at k'; cases k'
        · show (zv (z5q w.p.Links d.C (zp3 w d).1) j).Out.Said = _
          rw [z1r hi hj, if_neg hji]
      · rw [if_pos (by exact h1)]; exact zmj h hd
  · rw [if_pos (by exact h0)]; exact zmj h hd
theorem zadw {w : Wld} (h : OkW w) (hd : w.deeds < 600) : OkW (zoq (zd8 w)).1 := by
  have ht : zat w.p = true ∧ w.p.Time ≤ w.clock ∧ w.clock ≤ 1099511627776 := ⟨h.pr, h.pt, by have := h.t1; omega⟩
  unfold zoq
  rw [if_neg (by show ¬ (zpw w.p w.clock).2.2 ≠ 0; rw [zarq ht]; simp)]
  obtain ⟨r1, r2, r3, r4, r5, r6, r7, r8⟩ := zam9 ht
  obtain ⟨S, D, M, e, hS, hdn, hl, hm⟩ := z3e ht.1 w.clock
  have hg := zam8 ht.1 ht.2
  have hp := h.ph; have hq := h.pq; have d0 := h.d0
  refine ⟨by show 0 ≤ w.deeds + 1; omega, by show w.deeds + 1 ≤ 600; omega, h.t0, h.t1, hg, by show (zpw w.p w.clock).1.Height ≤ w.deeds + 1; rw [r1]; omega, by show (zpw w.p w.clock).1.Time ≤ w.clock; rw [r2]; exact Int.le_refl _, by show (((zpw w.p w.clock).1.Queue.length : Nat) : Int) ≤ w.deeds + 1; rw [r5]; omega, fun i hi => ?_⟩
  obtain ⟨D', -, hD⟩ := zana ht hi
  have hw := h.c i hi
  have hz := hw.size; have hh := hw.height
  have o1 : (zpw w.p w.clock).1.Links.On.get i = w.p.Links.On.get i := by rw [r6]
  have o2 : (zpw w.p w.clock).1.Links.Gone.get i = w.p.Links.Gone.get i := by rw [r7]
  refine ⟨hw.good, by show (ze w.consumers i).Height ≤ w.deeds + 1; omega, hw.time, by show (((ze w.consumers i).Pending.length + (ze w.consumers i).Ripes.length : Nat) : Int) ≤ w.deeds + 1; omega, hw.on.trans o1.symm, hw.gone.trans o2.symm, ?_, hw.said, ?_⟩
  · show ∀ s, s ∈ (zv (zpw w.p w.clock).1.Links i).Out.Said → Pk1 s
    rw [← zyu]
    rcases hD with ⟨-, -, -, e4, -⟩ | ⟨-, -, -, -, -, -, -, e8, e9⟩
    · rw [e4]; exact hw.told
    · rw [e9]
      intro s hs
      rcases List.mem_append.1 hs with hs | hs
      · exact hw.told s hs
      · rw [List.mem_singleton.1 hs]; exact ⟨_, e8, rfl, rfl⟩
  · intro k1 k2
    have k1' : w.p.Links.On.get i = false := o1.symm.trans k1
    obtain ⟨c1, c2⟩ := hw.fresh k1' (o2.symm.trans k2)
    refine ⟨c1, ?_⟩
    show (zv (zpw w.p w.clock).1.Links i).Out.Said = []
    rw [← zyu]
    rcases hD with ⟨-, -, -, e4, -⟩ | ⟨-, -, -, e4, -⟩
    · rw [e4]; exact c2
    · rw [k1'] at e4; cases e4
theorem zwf {L : Links} {i j H : Int} {T : List Power} {f : Bool} (hi : 0 ≤ i ∧ i < 2) (hj : 0 ≤ j ∧ j < 2) : zv (zia L i H T f) j = if j = i then ⟨true, false, H, T, f, [], ⟨[], [], 0, false⟩, ⟨0, 0, 0, 0⟩⟩ else zv L j := by
  unfold zv zia
  simp only [zap _ _ hi hj]
  by_cases e : j = i
  · simp only [if_pos e]
  · simp only [if_neg e]
theorem z5w {p : za} {i : Int} (h : (zf1 p i).2 = 0) : zat p = true ∧ (0 ≤ i ∧ i < 2) ∧ p.Links.Gone.get i = false ∧ p.Links.On.get i = false ∧ 1 ≤ p.Height ∧ p.Set.length ≠ 0 ∧ (zf1 p i).1 = zpx p i (p.Stake.Waits.map (zjv i p.Height)) (zyw p) := by
  unfold zf1 at h ⊢
  cases hg : zat p with
  | false => rw [if_pos hg] at h; cases h
  | true =>
    rw [if_neg (by rw [hg]; simp)] at h
    rw [if_neg (by simp)]
    by_cases hi : 0 ≤ i ∧ i < 2
    · rw [if_pos hi] at h ⊢
      by_cases h1 : p.Links.Gone.get i = true
      · rw [if_pos h1] at h; cases h
      rw [if_neg h1] at h ⊢
      by_cases h2 : p.Links.On.get i = true
      · rw [if_pos h2] at h; cases h
      rw [if_neg h2] at h ⊢
      by_cases h3 : p.Height < 1 ∨ p.Set.length = 0
      · rw [if_pos h3] at h; cases h
      rw [if_neg h3]
      simp only [not_or] at h3
      exact ⟨rfl, hi, Bool.eq_false_iff.2 h1, Bool.eq_false_iff.2 h2, by omega, h3.2, rfl⟩
    · rw [if_neg hi] at h; cases h
theorem zahd {p : za} (hx : GoodX p) {i : Int} (hi : 0 ≤ i ∧ i < 2) (ho : p.Links.On.get i = false) : GoodX (zpx p i (p.Stake.Waits.map (zjv i p.Height)) (zyw p)) := by
  obtain ⟨b1, b2, b3, b4, b5, b6, b7⟩ := hx.1
  have hf : ∀ w, (zjv i p.Height w).Number = w.Number ∧ (zjv i p.Height w).D = w.D ∧ (zjv i p.Height w).V = w.V ∧ (zjv i p.Height w).Amount = w.Amount ∧ (zjv i p.Height w).Height = w.Height ∧ (zjv i p.Height w).Due = w.Due := by
    intro w; unfold zjv; split <;> exact ⟨rfl, rfl, rfl, rfl, rfl, rfl⟩
  have gs : GoodS { p.Stake with Waits := p.Stake.Waits.map (zjv i p.Height) } := by
    refine ⟨b1, ⟨b2.1, b2.2.1, by show (p.Stake.Waits.map _).length ≤ 60; rw [List.length_map]; exact b2.2.2⟩, b3, zwu (fun w hw => ⟨(hf w).1, (hf w).2.1, (hf w).2.2.1, by rw [(hf w).2.2.2.1]; exact hw, (hf w).2.2.2.2.1, (hf w).2.2.2.2.2⟩) b4, b5, ?_, b7⟩
    show zrm (p.Stake.Waits.map _) = _
    rw [z9p (fun w => (hf w).2.2.2.1)]; exact b6
  have hlk : ∀ j : Int, 0 ≤ j ∧ j < 2 → LkX (zpx p i (p.Stake.Waits.map (zjv i p.Height)) (zyw p)) j := by
    intro j hj
    obtain ⟨a1, a2, a3, a4, a5, a6⟩ := hx.lk hj
    have el := zwf (L := p.Links) (H := p.Height) (T := p.Set) (f := zyw p) hi hj
    by_cases e : j = i
    · rw [if_pos e] at el
      have z := hx.2.1.1
      exact ⟨by show ¬ ((zv (zia p.Links i p.Height p.Set (zyw p)) j).On = true ∧ (zv (zia p.Links i p.Height p.Set (zyw p)) j).Gone = true); rw [el]; simp, by show 0 ≤ (zv (zia p.Links i p.Height p.Set (zyw p)) j).Base; rw [el]; exact z,
        by show (zv (zia p.Links i p.Height p.Set (zyw p)) j).Base ≤ p.Height; rw [el]; exact Int.le_refl _, by show zx 1 (-1) (zv (zia p.Links i p.Height p.Set (zyw p)) j).Told = true; rw [el]; exact hx.2.2.1,
        by show zer (zv (zia p.Links i p.Height p.Set (zyw p)) j).Out; rw [el]; exact z5i, by show zak (-1) (zv (zia p.Links i p.Height p.Set (zyw p)) j).Done = true; rw [el]; rfl⟩
    · rw [if_neg e] at el
      exact ⟨by show ¬ ((zv (zia p.Links i p.Height p.Set (zyw p)) j).On = true ∧ (zv (zia p.Links i p.Height p.Set (zyw p)) j).Gone = true); rw [el]; exact a1, by show 0 ≤ (zv (zia p.Links i p.Height p.Set (zyw p)) j).Base; rw [el]; exact a2,
        by show (zv (zia p.Links i p.Height p.Set (zyw p)) j).Base ≤ p.Height; rw [el]; exact a3, by show zx 1 (-1) (zv (zia p.Links i p.Height p.Set (zyw p)) j).Told = true; rw [el]; exact a4,
        by show zer (zv (zia p.Links i p.Height p.Set (zyw p)) j).Out; rw [el]; exact a5, by show zak (-1) (zv (zia p.Links i p.Height p.Set (zyw p)) j).Done = true; rw [el]; exact a6⟩
  refine ⟨gs, hx.2.1, hx.2.2.1, okLk_iff.2 (hlk 0 (by omega)), okLk_iff.2 (hlk 1 (by omega)), List.all_eq_true.2 fun b hb => ask_iff.2 ?_⟩
  obtain ⟨q1, q2, q3, q4⟩ := hx.ask hb
  refine ⟨q1, ?_, q3, q4⟩
  show (p.Links.On.set i true).get b.C = true
  rw [zap _ _ hi q1]
  split
  · rfl
  · exact q2
theorem zakn {w : Wld} (h : OkW w) (hd : w.deeds < 600) (i : Int) : OkW (z5r (zd8 w) i).1 := by
  unfold z5r
  by_cases h0 : (zf1 w.p i).2 = 0
  · rw [if_neg (by show ¬ (zf1 w.p i).2 ≠ 0; simpa using h0)]
    obtain ⟨f1, hi, f3, f4, f5, f6, f7⟩ := z5w h0
    have hgb := zahd h.p hi f4
    have hp := h.ph; have hq := h.pq; have d0 := h.d0; have d1 := h.d1
    have e6 : (zf1 (zd8 w).p i).1 = zpx w.p i (w.p.Stake.Waits.map (zjv i w.p.Height)) (zyw w.p) := f7
    simp only [e6]
    refine z5v (i := i) h hd rfl rfl hgb (by show w.p.Height ≤ _; omega) h.pt (by show ((w.p.Queue.length : Nat) : Int) ≤ _; omega) ?_ fun j hj hji => ⟨zm9 hi hj hji _, .of ?_⟩
    · have hci : ze (zrn (zd8 w).consumers i (zug w.p.Set w.p.Height w.clock)) i = zug w.p.Set w.p.Height w.clock := zpy hi _
      have el := zwf (L := w.p.Links) (H := w.p.Height) (T := w.p.Set) (f := zyw w.p) hi hi
      rw [if_pos rfl] at el
      have t0 := h.t0; have t1 := h.t1; have z := h.p.2.1.1
      refine ⟨?_, ?_, ?_, ?_, ?_, ?_, ?_, ?_, fun k => ?_⟩
      · show zk2 (ze (zrn (zd8 w).consumers i (zug w.p.Set w.p.Height w.clock)) i) = true
        rw [hci]
        exact zq9 ⟨rfl, by show (0 : Int) ≤ 0; omega, by show (0 : Int) < _; omega, t0, by show w.clock ≤ _; omega, z, by show w.p.Height ≤ _; omega⟩ z5i h.p.2.2.1 rfl rfl
      · show (ze (zrn (zd8 w).consumers i (zug w.p.Set w.p.Height w.clock)) i).Height ≤ w.deeds + 1
        rw [hci]; show (0 : Int) ≤ _; omega
      · show (ze (zrn (zd8 w).consumers i (zug w.p.Set w.p.Height w.clock)) i).Time ≤ w.clock
        rw [hci]; exact Int.le_refl _
      · show (((ze (zrn (zd8 w).consumers i (zug w.p.Set w.p.Height w.clock)) i).Pending.length + (ze (zrn (zd8 w).consumers i (zug w.p.Set w.p.Height w.clock)) i).Ripes.length : Nat) : Int) ≤ w.deeds + 1
        rw [hci]; show ((0 : Nat) : Int) ≤ _; omega
      · show (ze (zrn (zd8 w).consumers i (zug w.p.Set w.p.Height w.clock)) i).On = (zv (zia w.p.Links i w.p.Height w.p.Set (zyw w.p)) i).On
        rw [hci, el]; rfl
      · show (ze (zrn (zd8 w).consumers i (zug w.p.Set w.p.Height w.clock)) i).Gone = (zv (zia w.p.Links i w.p.Height w.p.Set (zyw w.p)) i).Gone
        rw [hci, el]; rfl
      · show ∀ s, s ∈ (zv (zia w.p.Links i w.p.Height w.p.Set (zyw w.p)) i).Out.Said → Pk1 s
        rw [el]; intro s hs; cases hs
      · show ∀ s, s ∈ (ze (zrn (zd8 w).consumers i (zug w.p.Set w.p.Height w.clock)) i).Out.Said → PkB s
        rw [hci]; intro s hs; cases hs
      · have k' : (zv (zia w.p.Links i w.p.Height w.p.Set (zyw w.p)) i).On = false := k
        rw [el] at k'; cases k'
    · show zv (zia w.p.Links i w.p.Height w.p.Set (zyw w.p)) j = _
      rw [zwf hi hj, if_neg hji]
  · rw [if_pos (by exact h0)]; exact zmj h hd
theorem zx4 {L : Links} {i j : Int} (hi : 0 ≤ i ∧ i < 2) (hj : 0 ≤ j ∧ j < 2) : zv (zww L i) j = if j = i then { zv L j with On := false, Gone := true, Fresh := false, Done := [], Out := { (zv L j).Out with Closed := true } } else zv L j := by
  unfold zv zww
  simp only [zap _ _ hi hj]
  by_cases e : j = i
  · simp only [if_pos e]
  · simp only [if_neg e]
theorem zako {w : Wld} (h : OkW w) {i : Int} (hi : 0 ≤ i ∧ i < 2) (ho : (ze w.consumers i).On = true) : zwx w.p i = z00 w.p i ∧ z1n (ze w.consumers i) = { ze w.consumers i with On := false, Gone := true, Out := { (ze w.consumers i).Out with Closed := true } } := by
  have on' : w.p.Links.On.get i = true := by rw [← (h.c i hi).on]; exact ho
  exact ⟨by unfold zwx; rw [if_pos ⟨h.pr, hi, on'⟩], by unfold z1n; rw [if_neg (by rw [ho]; simp)]⟩
theorem zahe {w : Wld} (h : OkW w) (hd : w.deeds < 600) {d : Deed} (hi : 0 ≤ d.C ∧ d.C < 2) (ho : (ze w.consumers d.C).On = true) : OkW (zyv (zd8 w) d).1 := by
  unfold zyv
  by_cases h0 : (zakg w d).2 = 0
  · rw [if_neg (by show ¬ (zakg w d).2 ≠ 0; simpa using h0)]
    obtain ⟨f1, f2⟩ := zako h hi ho
    have hw := h.c d.C hi
    have e1 : zwx (zd8 w).p d.C = z00 w.p d.C := f1
    have e2 : z1n (ze (zd8 w).consumers d.C) = { ze w.consumers d.C with On := false, Gone := true, Out := { (ze w.consumers d.C).Out with Closed := true } } := f2
    simp only [e1, e2]
    obtain ⟨g1, g2, g3, g4, g5⟩ := zdh hw.good
    have hz := hw.size; have hh := hw.height; have hp := h.ph; have hq := h.pq
    have hqf : (w.p.Queue.filter (z3d d.C)).length ≤ w.p.Queue.length := List.length_filter_le _ _
    have el := zx4 (L := w.p.Links) hi hi
    rw [if_pos rfl] at el
    refine z5v (i := d.C) h hd rfl rfl (goodPr_iff.1 (zabr h.pr hi)).1 (by show w.p.Height ≤ _; omega) h.pt (by show (((w.p.Queue.filter (z3d d.C)).length : Nat) : Int) ≤ _; omega) ?_ fun j hj hji => ⟨zm9 hi hj hji _, .of ?_⟩
    · have hci := zpy (C := (zd8 w).consumers) hi { ze w.consumers d.C with On := false, Gone := true, Out := { (ze w.consumers d.C).Out with Closed := true } }
      refine ⟨?_, ?_, ?_, ?_, ?_, ?_, ?_, ?_, fun k k2 => ?_⟩
      · rw [hci]; exact zq9 ⟨rfl, g1.2⟩ g2 g3 g4 g5
      · rw [hci]; show (ze w.consumers d.C).Height ≤ w.deeds + 1; omega
      · rw [hci]; exact hw.time
      · rw [hci]; show (((ze w.consumers d.C).Pending.length + (ze w.consumers d.C).Ripes.length : Nat) : Int) ≤ w.deeds + 1; omega
      · rw [hci]; exact (congrArg Link.On el).symm
      · rw [hci]; exact (congrArg Link.Gone el).symm
      · show ∀ s, s ∈ (zv (zww w.p.Links d.C) d.C).Out.Said → Pk1 s
        rw [el]; exact hw.told
      · rw [hci]; exact hw.said
      · have k' : (zv (zww w.p.Links d.C) d.C).Gone = false := k2
        rw [el] at k'; cases k'
    · show zv (zww w.p.Links d.C) j = _
      rw [zx4 hi hj, if_neg hji]
  · rw [if_pos (by exact h0)]; exact zmj h hd
theorem zadx {w : Wld} (h : OkW w) (hd : w.deeds < 600) (d : Deed) : OkW (ztu (zd8 w) d).1 := by
  have hm := zmj h hd
  unfold ztu
  by_cases c1 : d.Kind < 4 ∨ 12 < d.Kind
  · rw [if_pos c1]; exact hm
  rw [if_neg c1]
  by_cases c2 : d.C < 0 ∨ 2 ≤ d.C
  · rw [if_pos c2]; exact hm
  rw [if_neg c2]
  have hi : 0 ≤ d.C ∧ d.C < 2 := by omega
  by_cases c3 : d.Kind ≠ 4 ∧ (zd8 w).consumers.On.get d.C = false
  · rw [if_pos c3]; exact hm
  rw [if_neg c3]
  by_cases c4 : d.Kind = 4
  · rw [if_pos c4]; exact zakn h hd _
  rw [if_neg c4]
  have ho : (ze w.consumers d.C).On = true := by
    cases e : (ze w.consumers d.C).On with
    | true => rfl
    | false => exact absurd ⟨c4, e⟩ c3
  repeat' split
  · exact zadt h hd hi ho
  · exact zakm h hd hi ho _
  · exact zadv h hd hi ho
  · exact zahe h hd hi ho
  · exact zanf h hd hi ho _
  · exact zag9 h hd hi ho _ _
  · exact hm
theorem zart {w : Wld} (h : OkW w) (hd : w.deeds < 600) (d : Deed) : OkW (actW (zd8 w) d).1 := by
  have hm := zmj h hd
  unfold actW
  repeat' split
  · exact zabw hm _ _ _
  · exact z6n hm _ _ _
  · exact zag5 hm _
  · exact zanc hm _ _
  · exact zand hm _
  · exact zadw h hd
  · exact zadx h hd d
theorem z5x {w : Wld} (h : OkW w) (d : Deed) : OkW (doW w d).1 := by
  unfold doW
  split
  · exact h
  · rename_i hd; exact zart h (by omega) d
end Go.Proofs.YtmakmlnfbdablaaGreat.Ab
namespace Go.Proofs.YtmakmlnfbdablaaGreat.Ab
open Go Go.RowKit
set_option linter.unusedVariables false
set_option linter.unusedSimpArgs false
theorem zady : zmz = some newW := by
  rw [zmz, ztj, Tr.run_bind zagv, Tr.run_leaf]; rfl
theorem zang (w : Wld) : zie w = some (w.clock, w) := by rw [zie, zfy, Tr.run_leaf]
theorem zwy {l : List Power} (h : l.length * 16 ≤ 140737488355328) : zb2 l = some l := by
  rw [zb2, zmd, Tr.run_guard (by rw [zbp]; omega), Tr.run_leaf]
theorem z1s {l : List Int} (h : l.length * 8 ≤ 140737488355328) : zcb l = some l := by
  rw [zcb, zkp, Tr.run_guard (by rw [zps]; omega), Tr.run_leaf]
theorem zabz {p : Packet} (h1 : p.Set.length * 16 ≤ 140737488355328) (h2 : p.Done.length * 8 ≤ 140737488355328) : zff p = some p := by
  rw [zff, zmf, zwy h1, z1s h2, Tr.run_guard (by rfl), Tr.run_guard (by rfl), Tr.run_leaf]; rfl
theorem z7u {l : zes} (h1 : l.Said.length * 16 ≤ 140737488355328) (h2 : l.Due.length * 8 ≤ 140737488355328) : zbo l = some l := by
  rw [zbo, zkr, z1s h2, Tr.run_guard (by show (0 + l.Said.length) * 16 ≤ _; omega), Tr.run_guard (by rfl), Tr.run_leaf]; rfl
theorem zab0 {w : Wld} (hf : FitPr 140737488351232 w.p) : zb3 w = some (w.p, w) := by
  have hw := hf.waits; have hs := hf.set; have hq := hf.queue
  have turn : ∀ (c : Nat), c < 2 → ∀ z, (zao (c : Int) w z w.p).run = some (.inl (((c + 1 : Nat) : Int), w, z, w.p)) := by
    intro c hc z
    have e1 := zwy (l := w.p.Links.Told.get c) (by have := hf.told c; omega)
    have e2 := z1s (l := w.p.Links.Done.get c) (by have := hf.done c; omega)
    have e3 := z7u (l := (zv w.p.Links c).Out) (by have := hf.said c; show (w.p.Links.Said.get c).length * 16 ≤ _; omega) (by have := hf.due c; show (w.p.Links.Due.get c).length * 8 ≤ _; omega)
    simp only [zao]
    rw [Tr.run_true (by simp; omega), Tr.run_guard ⟨by omega, by omega⟩, e1, e2, e3, Tr.run_guard (by rfl), Tr.run_guard (by rfl), Tr.run_guard (by rfl), Tr.run_leaf, zz (by omega)]
    simp only [Option.getD_some]
    have hb : 0 ≤ (c : Int) ∧ (c : Int) < 2 := by omega
    unfold zv
    simp only [zpv _ hb]
  have l1 : ∀ z, zd4 0 w z w.p = some (w, z, w.p) := by
    intro z
    rw [zd4, zdw (s' := (((1 : Nat) : Int), w, z, w.p)) (turn 0 (by omega) z), zdw (s' := (((2 : Nat) : Int), w, z, w.p)) (turn 1 (by omega) z), zgc (by
      show (zao 2 w z w.p).run = _
      simp only [zao]
      rw [Tr.run_false (by simp), Tr.run_leaf])]
  have l2 : ∀ z q, zd5 w.p.Queue w.p.Queue.length 0 w z q [] = some (w, z, q, w.p.Queue) := by
    intro z q
    rw [zd5]
    have := zot (F := fun s : (List Asked) × Int × Int × Wld × za × za × (List Asked) => (zbk s.1 s.2.1 s.2.2.1 s.2.2.2.1 s.2.2.2.2.1 s.2.2.2.2.2.1 s.2.2.2.2.2.2).run) w.p.Queue.length (fun i t => (w.p.Queue, (w.p.Queue.length : Int), (i : Int), w, z, q, t)) (fun i t => t = w.p.Queue.take i) (fun _ _ => (w, z, q, w.p.Queue)) ?_ ?_ 0 [] (Nat.zero_le _) rfl
    · exact this
    · rintro t rfl
      simp only [zbk]; rw [Tr.run_false (by simp), Tr.run_leaf, List.take_length]
    · rintro i t hi ht
      obtain ⟨p1, p2⟩ := hf.ps _ (zjb (l := w.p.Queue) (k := i) hi default)
      have htl : t.length ≤ i := by rw [ht, List.length_take]; omega
      refine .inl ⟨t ++ [w.p.Queue.getD i default], ?_, by rw [ht, zlq hi default], by trivial⟩
      simp only [zbk, Int.toNat_natCast]
      rw [Tr.run_true (by simpa using hi), Tr.run_guard ⟨by omega, by rw [zfn]; omega⟩, zabz (by omega) (by omega), Tr.run_guard (by rfl), Tr.run_guard (by simp only [zfn, List.length_singleton]; omega), Tr.run_leaf, zz (by omega)]
      rfl
  rw [zb3, zdz, Tr.run_guard (by rw [zcc]; omega), Tr.run_bind (zwy (by omega)), Tr.run_bind (v := (w, default, w.p)) (by exact l1 default)]
  simp only []
  rw [Tr.run_bind (v := (w, default, w.p, w.p.Queue)) (by exact l2 default w.p), Tr.run_leaf]
theorem zab1 {w : Wld} {i : Int} (hf : (0 ≤ i ∧ i < 2) → FitC 140737488351232 (ze w.consumers i)) : zbc i w = some (if 0 ≤ i ∧ i < 2 then ze w.consumers i else default, w) := by
  rw [zbc, zd0]
  by_cases hi : 0 ≤ i ∧ i < 2
  · have hf := hf hi
    have e1 := zwy (l := w.consumers.Set.get i) (by have : (w.consumers.Set.get i).length * 16 ≤ _ := hf.set; omega)
    have e3 := z7u (l := (ze w.consumers i).Out) (by have := hf.said; omega) (by have := hf.due; omega)
    have hr : (w.consumers.Ripes.get i).length * 16 ≤ 140737488351232 := hf.ripes
    have hp : (w.consumers.Pending.get i).length * 80 ≤ 140737488351232 := hf.pend
    have l1 : ∀ z q, zd6 (w.consumers.Pending.get i) (w.consumers.Pending.get i).length 0 w z q [] = some (w, z, q, w.consumers.Pending.get i) := by
      intro z q
      have hps : ∀ p, p ∈ w.consumers.Pending.get i → p.Set.length * 16 ≤ 140737488351232 ∧ p.Done.length * 8 ≤ 140737488351232 := hf.ps
      generalize w.consumers.Pending.get i = l at *
      rw [zd6]
      have := zot (F := fun s : (List Packet) × Int × Int × Wld × zb × zb × (List Packet) => (zbl s.1 s.2.1 s.2.2.1 s.2.2.2.1 s.2.2.2.2.1 s.2.2.2.2.2.1 s.2.2.2.2.2.2).run) l.length (fun i t => (l, (l.length : Int), (i : Int), w, z, q, t)) (fun i t => t = l.take i) (fun _ _ => (w, z, q, l)) ?_ ?_ 0 [] (Nat.zero_le _) rfl
      · exact this
      · rintro t rfl
        simp only [zbl]; rw [Tr.run_false (by simp), Tr.run_leaf, List.take_length]
      · rintro k t hk ht
        obtain ⟨p1, p2⟩ := hps _ (zjb (l := l) (k := k) hk default)
        have htl : t.length ≤ k := by rw [ht, List.length_take]; omega
        refine .inl ⟨t ++ [l.getD k default], ?_, by rw [ht, zlq hk default], by trivial⟩
        simp only [zbl, Int.toNat_natCast]
        rw [Tr.run_true (by simpa using hk), Tr.run_guard ⟨by omega, by rw [zgh]; omega⟩, Tr.run_bind (zabz (by omega) (by omega)), Tr.run_guard (by simp only [zgh, List.length_singleton]; omega), Tr.run_leaf, zz (by omega)]
    rw [if_pos hi, Tr.run_false (by simp; omega), Tr.run_guard hi, e1, e3, Tr.run_guard (by rfl), Tr.run_guard (by rfl), Tr.run_guard (by rw [zm4]; omega)]
    simp only [Option.getD_some]
    rw [Tr.run_bind (v := (w, default, ze w.consumers i, w.consumers.Pending.get i)) (by exact l1 default _), Tr.run_leaf]
    rfl
  · rw [if_neg hi, Tr.run_true (by simp; omega), Tr.run_leaf]
theorem zahf {w : Wld} (h : OkW w) {i : Int} (hi : 0 ≤ i ∧ i < 2) (b : Bool) : (zakf (zgy w i b)).size ≤ 71 := by
  have hw := h.c i hi
  unfold zakf
  split
  · rename_i hg
    have hmem : (zgy w i b).Said.getD (zgy w i b).Got.toNat .empty ∈ (zgy w i b).Said := by
      by_cases h0 : (zgy w i b).Got.toNat < (zgy w i b).Said.length
      · exact zjb h0 _
      · exact absurd hg (by
          cases b with
          | true => have : 0 ≤ (ze w.consumers i).Out.Got := (zdh hw.good).2.1.2.2.1
                    show ¬ (ze w.consumers i).Out.Got < _
                    have h0' : ¬ (ze w.consumers i).Out.Got.toNat < (ze w.consumers i).Out.Said.length := h0
                    show ¬ (ze w.consumers i).Out.Got < (((ze w.consumers i).Out.Said.length : Nat) : Int)
                    omega
          | false => have : 0 ≤ (zv w.p.Links i).Out.Got := (h.p.lk hi).line.2.2.1
                     have h0' : ¬ (zv w.p.Links i).Out.Got.toNat < (zv w.p.Links i).Out.Said.length := h0
                     show ¬ (zv w.p.Links i).Out.Got < (((zv w.p.Links i).Out.Said.length : Nat) : Int)
                     omega)
    generalize (zgy w i b).Said.getD (zgy w i b).Got.toNat .empty = s at hmem
    have : ∃ q, zgd q = 0 ∧ s = txt (zyq q) := by
      cases b with
      | true => obtain ⟨q, q1, _, q2⟩ := hw.said s hmem; exact ⟨q, q1, q2⟩
      | false => obtain ⟨q, q1, _, q2⟩ := hw.told s hmem; exact ⟨q, q1, q2⟩
    obtain ⟨q, q1, rfl⟩ := this
    have := z5n q1
    rw [z0s, z45]; omega
  · decide
theorem zakp {n : Nat} (h : n ≤ 1000) : zgd (zake n) = 0 := by
  have hw : IntKind.i64.wrap (1 + (n : Int)) = 1 + n := zl (by omega) (by omega)
  unfold zgd zake
  rw [hw]
  simp only []
  rw [if_neg (by omega), if_neg (by omega), if_neg (by simp), if_neg (by simp [zx]), if_neg (by simp [zak])]
theorem zaru {w : Wld} (h : OkW w) {i : Int} (hi : 0 ≤ i ∧ i < 2) (b f : Bool) : zol (zgy w i b) f = some (zna (zgy w i b) f) ∧ (zna (zgy w i b) f).size ≤ 71 := by
  have hz := zahf h hi b
  have hg0 : 0 ≤ (zgy w i b).Got := by
    cases b with
    | true => exact (zdh (h.c i hi).good).2.1.2.2.1
    | false => exact (h.p.lk hi).line.2.2.1
  have hE : ∀ n : Nat, zbi (⟨3, 1, 0, IntKind.i64.wrap (1 + (n : Int)), [], []⟩ : Packet) = some (zg8 (zake n)) := fun n => z43 (by simp) (by simp)
  generalize zgy w i b = l at *
  have hsz : (zna l f).size ≤ 71 := by
    unfold zna
    cases f with
    | true => rw [if_pos rfl, zm5 (zakp (by omega)), z0s, z45]; simp [zake]
    | false => rw [if_neg (by simp)]; exact hz
  refine ⟨?_, hsz⟩
  rw [zol, zq1]
  unfold zna
  unfold zakf at hz ⊢
  by_cases hl : l.Got < ((l.Said.length : Nat) : Int)
  · rw [if_pos hl, Tr.run_true (by simpa using hl), Tr.run_guard ⟨hg0, by show l.Got < ((l.Said.length : Nat) : Int); exact hl⟩]
    cases f with
    | true => rw [Tr.run_false (by rfl), if_pos rfl, Tr.run_bind (hE _), Tr.run_leaf]
    | false => rw [Tr.run_true (by rfl), if_neg (by simp), Tr.run_leaf]
  · rw [if_neg hl, Tr.run_false (by simpa using hl)]
    cases f with
    | true => rw [Tr.run_false (by rfl), if_pos rfl, Tr.run_bind (hE _), Tr.run_leaf]
    | false => rw [Tr.run_true (by rfl), if_neg (by simp), Tr.run_leaf]
theorem zahg {w : Wld} (hf : FitPr 140737488351232 w.p) : zgl w = some ((zoq w).2, (zoq w).1) := by
  rw [zgl, zeh, zagx hf, Tr.run_guard (by rfl)]
  simp only [Option.getD_some]
  unfold zoq
  by_cases h0 : (zpw w.p w.clock).2.2 = 0
  · rw [Tr.run_false (by simpa using h0), if_neg (by simpa using h0)]
    have turn : ∀ (c : Nat), c < 2 → ∀ (u : Wld) l z (p : za), (zaw l (c : Int) u z p).run = some (.inl (l, ((c + 1 : Nat) : Int), { u with heads := { u.heads with PHeight := u.heads.PHeight.set c p.Height, PTime := u.heads.PTime.set c p.Time, PSaid := u.heads.PSaid.set c (((p.Links.Said.get c).length : Nat) : Int), PGot := u.heads.PGot.set c (u.consumers.Got.get c) } }, z, p)) := by
      intro c hc u l z p
      simp only [zaw]
      rw [Tr.run_true (by simp; omega), Tr.run_guard ⟨by omega, by omega⟩, Tr.run_guard ⟨by omega, by omega⟩, Tr.run_guard ⟨by omega, by omega⟩, Tr.run_guard ⟨by omega, by omega⟩, Tr.run_leaf, zz (by omega)]
    have loop : ∀ l z, zeq l 0 { w with p := (zpw w.p w.clock).1 } z (zpw w.p w.clock).1 = some (l, { w with p := (zpw w.p w.clock).1, heads := zanb w.heads (zpw w.p w.clock).1 w.consumers }, z) := by
      intro l z
      generalize (zpw w.p w.clock).1 = p
      rw [zeq, zdw (turn 0 (by omega) _ _ _ _), zdw (turn 1 (by omega) _ _ _ _), zgc (by
        show (zaw _ 2 _ _ _).run = _
        simp only [zaw]
        rw [Tr.run_false (by simp), Tr.run_leaf])]
      rfl
    rw [Tr.run_bind (v := ((zpw w.p w.clock).2.1, { w with p := (zpw w.p w.clock).1, heads := zanb w.heads (zpw w.p w.clock).1 w.consumers }, ⟨0, 0⟩)) (by exact loop _ _), Tr.run_leaf]
  · rw [Tr.run_true (by simpa using h0), if_pos h0, Tr.run_leaf]; rfl
theorem zadz {C : zcp} {i : Int} (hi : 0 ≤ i ∧ i < 2) (l : zes) : ({ C with Said := C.Said.set i l.Said, Due := C.Due.set i l.Due, Got := C.Got.set i l.Got, Closed := C.Closed.set i l.Closed } : zcp) = zrn C i { ze C i with Out := l } := by
  unfold zrn ze
  simp only [zpv _ hi]
theorem zahh {w : Wld} (h : OkW w) {d : Deed} (hi : 0 ≤ d.C ∧ d.C < 2) : zgm d w = some ((ztt w d).2, (ztt w d).1) := by
  rw [zgm, zei, Tr.run_guard hi, Tr.run_guard hi]
  obtain ⟨t1, t2⟩ := zaru h hi d.Back d.Forged
  unfold ztt zp3
  cases hb : d.Back with
  | true =>
    rw [hb] at t1 t2
    have e0 : (ze w.consumers d.C).Out = zgy w d.C true := rfl
    have e1 : w.consumers.Got.get d.C = (zgy w d.C true).Got := rfl
    rw [Tr.run_true rfl, e0, Tr.run_bind t1, e1, z7a, Tr.run_guard (by rfl)]
    simp only [Option.getD_some]
    have es : zabv w d.C true = w.p.Links.SSaid.get d.C := rfl
    rw [← es]
    by_cases h0 : (zon (zgy w d.C true) (IntKind.i64.wrap ((zgy w d.C true).Got + 1)) (zna (zgy w d.C true) d.Forged) (zabv w d.C true) w.clock).2 = 0
    · rw [Tr.run_false (by simpa using h0), if_neg (by simpa using h0), Tr.run_true rfl, if_pos trivial, zado h.fit (by omega), Tr.run_guard (by rfl)]
      simp only [Option.getD_some]
      by_cases h1 : (zss w.p d.C (zna (zgy w d.C true) d.Forged).data.toList).2 = 0
      · rw [Tr.run_false (by simpa using h1), if_neg (by simpa using h1), Tr.run_leaf, zadz hi]
      · rw [Tr.run_true (by simpa using h1), if_pos h1, Tr.run_leaf]; rfl
    · rw [Tr.run_true (by simpa using h0), if_pos h0, Tr.run_leaf]; rfl
  | false =>
    rw [hb] at t1 t2
    have e0 : (zv w.p.Links d.C).Out = zgy w d.C false := rfl
    have e1 : w.p.Links.Got.get d.C = (zgy w d.C false).Got := rfl
    rw [Tr.run_false rfl, e0, Tr.run_bind t1, e1, z7a, Tr.run_guard (by rfl)]
    simp only [Option.getD_some]
    have es : zabv w d.C false = w.consumers.SSaid.get d.C := rfl
    rw [← es]
    by_cases h0 : (zon (zgy w d.C false) (IntKind.i64.wrap ((zgy w d.C false).Got + 1)) (zna (zgy w d.C false) d.Forged) (zabv w d.C false) w.clock).2 = 0
    · rw [Tr.run_false (by simpa using h0), if_neg (by simpa using h0), Tr.run_false rfl, if_neg (by simp), Tr.run_bind (zari ((h.c d.C hi).fit h.d1) (by omega))]
      by_cases h1 : (z0w (ze w.consumers d.C) (zna (zgy w d.C false) d.Forged).data.toList).2 = 0
      · rw [Tr.run_false (by simpa using h1), if_neg (by simpa using h1), Tr.run_leaf]; rfl
      · rw [Tr.run_true (by simpa using h1), if_pos h1, Tr.run_leaf]; rfl
    · rw [Tr.run_true (by simpa using h0), if_pos h0, Tr.run_leaf]; rfl
theorem zakq {w : Wld} (h : OkW w) {d : Deed} (hi : 0 ≤ d.C ∧ d.C < 2) : zg6 d w = some ((zyv w d).2, (zyv w d).1) := by
  rw [zg6, zex, Tr.run_guard hi, Tr.run_guard hi]
  have hr := z9t h.fit (c := d.C)
  unfold zyv zakg
  cases hb : d.Back with
  | true =>
    rw [Tr.run_true rfl, if_pos rfl, Tr.run_bind (zaax _ _ _ _)]
    by_cases h0 : (z1h (ze w.consumers d.C).Out d.N (w.consumers.STime.get d.C) (w.consumers.SGot.get d.C)).2 = 0
    · rw [Tr.run_false (by simpa using h0), if_neg (by simpa using h0), hr, Tr.run_guard (by rfl), Tr.run_bind zabg, Tr.run_leaf]; rfl
    · rw [Tr.run_true (by simpa using h0), if_pos h0, Tr.run_leaf]; rfl
  | false =>
    rw [Tr.run_false rfl, if_neg (show ¬ (false = true) by simp), Tr.run_bind (zaax _ _ _ _)]
    by_cases h0 : (z1h (zv w.p.Links d.C).Out d.N (w.p.Links.STime.get d.C) (w.p.Links.SGot.get d.C)).2 = 0
    · rw [Tr.run_false (by simpa using h0), if_neg (by simpa using h0), hr, Tr.run_guard (by rfl), Tr.run_bind zabg, Tr.run_leaf]; rfl
    · rw [Tr.run_true (by simpa using h0), if_pos h0, Tr.run_leaf]; rfl
end Go.Proofs.YtmakmlnfbdablaaGreat.Ab
namespace Go.Proofs.YtmakmlnfbdablaaGreat.Ab
open Go Go.RowKit
set_option linter.unusedVariables false
set_option linter.unusedSimpArgs false
theorem zahi {w : Wld} (h : OkW w) {d : Deed} : zgn d w = some ((ztu w d).2, (ztu w d).1) := by
  rw [zgn, zej]
  unfold ztu
  by_cases c1 : d.Kind < 4 ∨ 12 < d.Kind
  · rw [if_pos c1, Tr.run_true (by simpa using c1), Tr.run_leaf]; rfl
  rw [if_neg c1, Tr.run_false (by simp; omega)]
  by_cases c2 : d.C < 0 ∨ 2 ≤ d.C
  · rw [if_pos c2, Tr.run_true (by simpa using c2), Tr.run_leaf]; rfl
  have hi : 0 ≤ d.C ∧ d.C < 2 := by omega
  have hw := h.c d.C hi
  have hfc := hw.fit h.d1
  rw [if_neg c2, Tr.run_false (by simp; omega), Tr.run_guard hi]
  by_cases c3 : d.Kind ≠ 4 ∧ w.consumers.On.get d.C = false
  · rw [if_pos c3, Tr.run_true (by simpa using c3), Tr.run_leaf]; rfl
  rw [if_neg c3, Tr.run_false (by
    rw [Bool.eq_false_iff]; intro k; apply c3; simpa using k)]
  by_cases c4 : d.Kind = 4
  · rw [if_pos c4, Tr.run_true (by simpa using c4), zabo h.fit, Tr.run_guard (by rfl)]
    simp only [Option.getD_some]
    unfold z5r
    by_cases h0 : (zf1 w.p d.C).2 = 0
    · obtain ⟨f1, _, f3, f4, f5, f6, f7⟩ := z5w h0
      have hs : (zf1 w.p d.C).1.Set.length * 16 ≤ 140737488355328 := by rw [f7]; have := h.fit.set; show w.p.Set.length * 16 ≤ _; omega
      rw [Tr.run_false (by simpa using h0), if_neg (by simpa using h0), zamw hs, Tr.run_guard (by rfl), Tr.run_guard hi, Tr.run_leaf]
      rfl
    · rw [Tr.run_true (by simpa using h0), if_pos h0, Tr.run_leaf]; rfl
  rw [if_neg c4, Tr.run_false (by simpa using c4)]
  have hsz := hw.size; have hd1 := h.d1
  by_cases c7 : d.Kind = 7
  · have he : zw (ze w.consumers d.C) w.clock = some (endC w.clock (ze w.consumers d.C)) := zawf hfc (by omega)
    rw [if_pos c7, Tr.run_true (by simpa using c7), he, Tr.run_guard (by rfl)]
    simp only [Option.getD_some]
    unfold z02
    by_cases h0 : (endC w.clock (ze w.consumers d.C)).2 = 0
    · rw [Tr.run_true (by simpa using h0), Tr.run_guard hi, Tr.run_guard hi, Tr.run_guard (by omega), Tr.run_false (by simpa using h0), if_neg (by simpa using h0), Tr.run_leaf]; rfl
    · rw [Tr.run_false (by simpa using h0), Tr.run_true (by simpa using h0), if_pos h0, Tr.run_leaf]; rfl
  rw [if_neg c7, Tr.run_false (by simpa using c7)]
  by_cases c8 : d.Kind = 8
  · rw [if_pos c8, Tr.run_true (by simpa using c8)]
    unfold zabu
    cases hb : d.Back with
    | true =>
      rw [Tr.run_true rfl, if_pos rfl, Tr.run_guard hi, Tr.run_guard (by omega), Tr.run_guard hi, Tr.run_false rfl, Tr.run_leaf, zabt hi]; rfl
    | false =>
      rw [Tr.run_false rfl, if_neg (show ¬ (false = true) by simp), Tr.run_guard hi, Tr.run_guard (by omega), Tr.run_false rfl, Tr.run_leaf]; rfl
  rw [if_neg c8, Tr.run_false (by simpa using c8)]
  by_cases c9 : d.Kind = 9
  · rw [if_pos c9, Tr.run_true (by simpa using c9), Tr.run_bind (zahh h hi), Tr.run_leaf]
  rw [if_neg c9, Tr.run_false (by simpa using c9)]
  by_cases c10 : d.Kind = 10
  · rw [if_pos c10, Tr.run_true (by simpa using c10), Tr.run_bind (zakq h hi), Tr.run_leaf]
  rw [if_neg c10, Tr.run_false (by simpa using c10)]
  by_cases c11 : d.Kind = 11
  · rw [if_pos c11, Tr.run_true (by simpa using c11), zarj hfc, Tr.run_guard (by rfl)]
    simp only [Option.getD_some]
    unfold putW
    by_cases h0 : (zabf (ze w.consumers d.C) d.V w.clock).2 = 0
    · rw [Tr.run_false (by simpa using h0), if_neg (by simpa using h0), Tr.run_leaf]
    · rw [Tr.run_true (by simpa using h0), if_pos h0, Tr.run_leaf]; rfl
  rw [if_neg c11, Tr.run_false (by simpa using c11)]
  by_cases c12 : d.Kind = 12
  · rw [if_pos c12, Tr.run_true (by simpa using c12), zajv hfc, Tr.run_guard (by rfl)]
    simp only [Option.getD_some]
    unfold putW
    by_cases h0 : (z1m (ze w.consumers d.C) d.V d.N w.clock).2 = 0
    · rw [Tr.run_false (by simpa using h0), if_neg (by simpa using h0), Tr.run_leaf]
    · rw [Tr.run_true (by simpa using h0), if_pos h0, Tr.run_leaf]; rfl
  rw [if_neg c12, Tr.run_false (by simpa using c12), Tr.run_false rfl, Tr.run_leaf, zabt hi]
theorem zakr {w : Wld} (h : OkW w) {d : Deed} (hn : d.N ≤ 9223372036854775807) : zbd d w = some ((doW w d).2, (doW w d).1) := by
  rw [zbd, zi8]
  unfold doW
  by_cases c0 : 600 ≤ w.deeds
  · rw [if_pos c0, Tr.run_true (by simpa using c0), Tr.run_leaf]; rfl
  have hd : w.deeds < 600 := by omega
  have hd0 := h.d0
  have hw : IntKind.i64.wrap (w.deeds + 1) = w.deeds + 1 := zl (by omega) (by omega)
  have hm := zmj h hd
  rw [if_neg c0, Tr.run_false (by simpa using c0), hw]
  have e0 : ({ w with deeds := w.deeds + 1 } : Wld) = zd8 w := rfl
  unfold actW
  by_cases c1 : d.Kind = 1
  · rw [if_pos c1, Tr.run_true (by simpa using c1), Tr.run_bind (z5j h.fit hn)]
    unfold zwe
    by_cases h0 : (zgi w.p d.D d.V d.N).2 = 0
    · rw [Tr.run_false (by simpa using h0), if_neg (by show ¬ (zgi w.p d.D d.V d.N).2 ≠ 0; simpa using h0), Tr.run_leaf]; rfl
    · rw [Tr.run_true (by simpa using h0), if_pos (by exact h0), Tr.run_leaf]; rfl
  rw [if_neg c1, Tr.run_false (by simpa using c1)]
  by_cases c2 : d.Kind = 2
  · rw [if_pos c2, Tr.run_true (by simpa using c2), z1p h.fit hn, Tr.run_guard (by rfl)]
    simp only [Option.getD_some]
    unfold zwe
    by_cases h0 : (zha w.p d.D d.V d.N w.clock).2 = 0
    · rw [Tr.run_false (by simpa using h0), if_neg (by show ¬ (zha w.p d.D d.V d.N w.clock).2 ≠ 0; simpa using h0), Tr.run_leaf]; rfl
    · rw [Tr.run_true (by simpa using h0), if_pos (by exact h0), Tr.run_leaf]; rfl
  rw [if_neg c2, Tr.run_false (by simpa using c2)]
  by_cases c3 : d.Kind = 3
  · rw [if_pos c3, Tr.run_true (by simpa using c3), Tr.run_bind zajh]
    unfold zwe
    by_cases h0 : (zdo w.p.Stake d.V 1).2 = 0
    · rw [Tr.run_false (by simpa using h0), if_neg (by show ¬ (zdo w.p.Stake d.V 1).2 ≠ 0; simpa using h0), Tr.run_leaf]; rfl
    · rw [Tr.run_true (by simpa using h0), if_pos (by exact h0), Tr.run_leaf]; rfl
  rw [if_neg c3, Tr.run_false (by simpa using c3)]
  by_cases c13 : d.Kind = 13
  · rw [if_pos c13, Tr.run_true (by simpa using c13), Tr.run_bind (z5m h.fit)]
    unfold zwe
    by_cases h0 : (z5l w.p d.V d.N).2 = 0
    · rw [Tr.run_false (by simpa using h0), if_neg (by show ¬ (z5l w.p d.V d.N).2 ≠ 0; simpa using h0), Tr.run_leaf]; rfl
    · rw [Tr.run_true (by simpa using h0), if_pos (by exact h0), Tr.run_leaf]; rfl
  rw [if_neg c13, Tr.run_false (by simpa using c13)]
  by_cases c5 : d.Kind = 5
  · rw [if_pos c5, Tr.run_true (by simpa using c5)]
    have t0 := h.t0; have t1 := h.t1
    have h1 : IntKind.i64.wrap (1099511627736 - w.clock) = 1099511627736 - w.clock := zl (by omega) (by omega)
    rw [h1]
    unfold zakh
    by_cases h0 : d.N < 1 ∨ 1099511627736 - w.clock < d.N
    · rw [Tr.run_true (by simpa using h0), if_pos (by exact h0), Tr.run_leaf]; rfl
    · have h2 : IntKind.i64.wrap (w.clock + d.N) = w.clock + d.N := zl (by omega) (by omega)
      rw [Tr.run_false (by simp; omega), if_neg (by exact h0), Tr.run_leaf, h2]; rfl
  rw [if_neg c5, Tr.run_false (by simpa using c5)]
  by_cases c6 : d.Kind = 6
  · rw [if_pos c6, Tr.run_true (by simpa using c6), e0, Tr.run_bind (zahg hm.fit), Tr.run_leaf]
  rw [if_neg c6, Tr.run_false (by simpa using c6), e0, Tr.run_bind (zahi hm), Tr.run_leaf]
def stk7 : Stake := ⟨⟨⟨99300, 100000, 100000, 100000⟩, 700, 0, 0⟩, { zawc with Tokens := ⟨700, 0, 0, 0, 0, 0⟩, Shares := ⟨700, 0, 0, 0, 0, 0⟩ }, ⟨⟨700, 0, 0, 0, 0, 0⟩, ⟨0, 0, 0, 0, 0, 0⟩, ⟨0, 0, 0, 0, 0, 0⟩, ⟨0, 0, 0, 0, 0, 0⟩⟩, [], 1⟩
theorem zaks : GoodS stk7 := by decide
theorem zab2 : zdj newS 0 0 700 = (stk7, 0) := by
  have h : zfl newS 0 0 = 0 := by
    unfold zfl
    rw [if_neg (by simpa using zajo), if_neg (by omega)]
  unfold zdj
  rw [if_neg (by simpa using h), if_neg (by decide), if_neg (by omega), if_neg (by decide), if_neg (by decide), if_neg (by decide), if_neg (by decide)]
  rfl
theorem zakt : setS stk7 = [⟨0, 7⟩] := by rfl
def p7 : za := { zabj with Stake := stk7 }
def p8 : za := ⟨1, 5, stk7, [⟨0, 7⟩], default, zagu (newM 0 0) (allP []) 5, []⟩
theorem zarv : zat p7 = true := by decide
theorem zarw : zat p8 = true := by decide
theorem zad0 : zgi zabj 0 0 700 = (p7, 0) := by
  unfold zgi
  rw [if_pos z7p]
  show (if (zdj newS 0 0 700).2 ≠ 0 then _ else (({ zabj with Stake := (zdj newS 0 0 700).1 } : za), (0 : Int))) = _
  rw [zab2]; rfl
theorem zawo : zpw p7 5 = (p8, [], 0) := by
  have hpay : z7h stk7 5 = (stk7, [], 0) := by unfold z7h; rw [if_neg (by simpa using zaks)]; rfl
  unfold zpw
  rw [if_pos ⟨zarv, by decide, by decide⟩]
  have hp : zop p7 5 = p8 := by
    unfold zop
    show ({ zx3 p7 5 with Stake := (z7h stk7 5).1, Set := setS (z7h stk7 5).1, Queue := [] } : za) = _
    rw [hpay, zakt]; rfl
  rw [hp, zafl (p := p8) (c := 0) rfl, zafl (p := p8) (c := 1) rfl]
  show (p8, (z7h stk7 5).2.1, (0 : Int)) = _
  rw [hpay]
def w1 : Wld := ⟨0, p7, default, default, 1⟩
def w2 : Wld := ⟨5, p7, default, default, 2⟩
def w3 : Wld := ⟨5, p8, default, zanb default p8 default, 3⟩
theorem do_1 : doW newW ⟨1, 0, 0, 0, 700, false, false⟩ = (w1, ⟨0, 0⟩) := by
  show zwe (zd8 newW) (zgi zabj 0 0 700) = _
  rw [zad0]; rfl
theorem do_2 : doW w1 ⟨5, 0, 0, 0, 5, false, false⟩ = (w2, ⟨0, 5⟩) := by rfl
theorem do_3 : doW w2 ⟨6, 0, 0, 0, 0, false, false⟩ = (w3, ⟨0, 0⟩) := by
  show zoq (zd8 w2) = _
  unfold zoq
  have e : zpw (zd8 w2).p (zd8 w2).clock = (p8, [], 0) := zawo
  rw [e]; rfl
theorem do_4 : (doW w3 ⟨4, 0, 0, 0, 0, false, false⟩).2.N = 1 ∧ (doW w3 ⟨4, 0, 0, 0, 0, false, false⟩).1.clock = 5 ∧ (ze (doW w3 ⟨4, 0, 0, 0, 0, false, false⟩).1.consumers 0).Set = [⟨0, 7⟩] := by
  have hb : zf1 p8 0 = (zpx p8 0 (p8.Stake.Waits.map (zjv 0 p8.Height)) (zyw p8), 0) := by
    unfold zf1
    rw [if_neg (by rw [zarw]; simp), if_pos (by omega), if_neg (by decide), if_neg (by decide), if_neg (by decide)]
  have e : doW w3 ⟨4, 0, 0, 0, 0, false, false⟩ = z5r (zd8 w3) 0 := rfl
  rw [e]
  unfold z5r
  have e2 : zf1 (zd8 w3).p 0 = (zpx p8 0 (p8.Stake.Waits.map (zjv 0 p8.Height)) (zyw p8), 0) := hb
  rw [e2]
  exact ⟨rfl, rfl, rfl⟩
theorem okW1 : OkW w1 := by have := z5x zadr ⟨1, 0, 0, 0, 700, false, false⟩; rw [do_1] at this; exact this
theorem okW2 : OkW w2 := by have := z5x okW1 ⟨5, 0, 0, 0, 5, false, false⟩; rw [do_2] at this; exact this
theorem okW3 : OkW w3 := by have := z5x okW2 ⟨6, 0, 0, 0, 0, false, false⟩; rw [do_3] at this; exact this
theorem okW4 : OkW (doW w3 ⟨4, 0, 0, 0, 0, false, false⟩).1 := z5x okW3 _
end Go.Proofs.YtmakmlnfbdablaaGreat.Ab
namespace Go.Proofs.YtmakmlnfbdablaaGreat.Ab
open Go Go.RowKit
set_option linter.unusedVariables false
set_option linter.unusedSimpArgs false
theorem OkW.cfit {w : Wld} (h : OkW w) {i : Int} (hi : 0 ≤ i ∧ i < 2) : FitC 140737488351232 (ze w.consumers i) := (h.c i hi).fit h.d1
theorem zaku {w : Wld} (h : OkW w) : zb3 w = some (w.p, w) := zab0 h.fit
theorem zakv {w : Wld} (h : OkW w) {i : Int} (hi : 0 ≤ i ∧ i < 2) : zbc i w = some (ze w.consumers i, w) := by
  rw [zab1 fun hi => h.cfit hi, if_pos hi]
theorem zafs : zq2 = some true := by
  obtain ⟨e1, e2, e3⟩ := do_4
  rw [zq2, ztl, Tr.run_bind zady, Tr.run_bind (zakr zadr (by decide)), do_1, Tr.run_bind (zakr okW1 (by decide)), do_2, Tr.run_bind (zakr okW2 (by decide)), do_3, Tr.run_bind (zakr okW3 (by decide))]
  simp only [e1]
  rw [Tr.run_true (by rfl), Tr.run_bind (zang _), Tr.run_true (by rw [e2]; rfl), Tr.run_bind (zakv okW4 (by omega)), Tr.run_leaf, e3]
  rfl
theorem zakw {σ ρ τ : Type} {F : σ → Option (σ ⊕ ρ)} (n : Nat) (mk : Nat → τ → σ) (I : Nat → τ → Prop) (out : τ → ρ)
    (hend : ∀ t, I n t → F (mk n t) = some (.inr (out t))) (hstep : ∀ i t, i < n → I i t → ∃ t', F (mk i t) = some (.inl (mk (i + 1) t')) ∧ I (i + 1) t') {t : τ} (h0 : I 0 t) : ∃ t', zel F (mk 0 t) = some (out t') ∧ I n t' := by
  obtain ⟨r, h1, t', h2, h3⟩ := zg7 (F := F) n mk I (fun _ _ r => ∃ t', r = out t' ∧ I n t') (fun t h => ⟨out t, hend t h, t, rfl, h⟩) (fun i t hi h => by
    obtain ⟨t', k1, k2⟩ := hstep i t hi h
    exact .inl ⟨t', k1, k2, fun r hr => hr⟩) 0 t (Nat.zero_le _) h0
  exact ⟨t', by rw [h1, h2], h3⟩
def z6o (l : List Deed) : Nat := min l.length 120
theorem zakx {l : List Deed} : ((decide (((z6o l : Nat) : Int) < ((l.length : Nat) : Int))) && (decide (((z6o l : Nat) : Int) < 120))) = false := by
  unfold z6o
  rw [Bool.and_eq_false_iff, decide_eq_false_iff_not, decide_eq_false_iff_not]
  omega
theorem zaky {l : List Deed} {i : Nat} (h : i < z6o l) : ((decide ((i : Int) < ((l.length : Nat) : Int))) && (decide ((i : Int) < 120))) = true := by
  unfold z6o at h
  rw [Bool.and_eq_true, decide_eq_true_eq, decide_eq_true_eq]
  omega
theorem zanh {l : List Deed} {i : Nat} (h : i < z6o l) : i < l.length := by unfold z6o at h; omega
theorem z2n (l : List Deed) : Sl.len (.deeds l) = l.length := rfl
def zakz (l : List Deed) : Prop := l.length ≤ 4611686018427387904 ∧ ∀ d, d ∈ l → d.N ≤ 9223372036854775807
noncomputable def zani (look : Deed → Reply → Wld → Option (Bool × Wld)) (x0 : List Deed) (x1 : Int) (x2 : Wld) : Tr (((List Deed) × Int × Wld) ⊕ ((Bool × Wld) ⊕ (Wld))) :=
  (.ite ((decide (x1 < ((x0.length : Nat) : Int))) && (decide (x1 < 120)))
    (.guard ((0 : Int) ≤ x1 ∧ x1 < ((Sl.len (.deeds x0) : Nat) : Int))
    (.bind (zbd (x0.getD x1.toNat default) x2) fun v3 =>
    (.guard ((0 : Int) ≤ x1 ∧ x1 < ((Sl.len (.deeds x0) : Nat) : Int))
    (.guard ((look (x0.getD x1.toNat default) v3.1 v3.2).isSome = true)
    (.ite (!((look (x0.getD x1.toNat default) v3.1 v3.2).getD default).1)
      (.leaf (.inr (.inl (false, ((look (x0.getD x1.toNat default) v3.1 v3.2).getD default).2))))
      (.leaf (.inl (x0, IntKind.i64.wrap (x1 + 1), ((look (x0.getD x1.toNat default) v3.1 v3.2).getD default).2))))))))
    (.leaf (.inr (.inr x2))))
theorem zanj {w : Wld} (d : Deed) (h : w.deeds < 600) : (doW w d).1.deeds = w.deeds + 1 := by
  have hp : ∀ r, (zwe (zd8 w) r).1.deeds = w.deeds + 1 := by intro r; unfold zwe; split <;> rfl
  have hq : ∀ i r, (putW (zd8 w) i r).1.deeds = w.deeds + 1 := by intro i r; unfold putW; split <;> rfl
  unfold doW
  rw [if_neg (by omega)]
  unfold actW
  repeat' split
  · exact hp _
  · exact hp _
  · exact hp _
  · exact hp _
  · unfold zakh; split <;> rfl
  · unfold zoq; split <;> rfl
  · unfold ztu
    repeat' split
    · rfl
    · rfl
    · rfl
    · unfold z5r; split <;> rfl
    · unfold z02; split <;> rfl
    · unfold zabu; split <;> rfl
    · unfold ztt; repeat' split
      all_goals rfl
    · unfold zyv; split <;> rfl
    · exact hq _ _
    · exact hq _ _
    · rfl
theorem z7v {look : Deed → Reply → Wld → Option (Bool × Wld)} (J : Wld → Prop) (h0 : J newW) {l : List Deed} (hl : zakz l)
    (hstep : ∀ w d, OkW w → J w → w.deeds < 120 → J (doW w d).1 ∧ look d (doW w d).2 (doW w d).1 = some (true, (doW w d).1)) :
    ∃ w, zel (fun s : (List Deed) × Int × Wld => (zani look s.1 s.2.1 s.2.2).run) (l, 0, newW) = some (.inr w) ∧ OkW w ∧ J w ∧ w.deeds = z6o l := by
  have := zakw (F := fun s : (List Deed) × Int × Wld => (zani look s.1 s.2.1 s.2.2).run) (z6o l) (fun i (w : Wld) => (l, (i : Int), w)) (fun i w => OkW w ∧ J w ∧ w.deeds = i) (fun w => .inr w) ?_ ?_ (t := newW) ⟨zadr, h0, rfl⟩
  · exact this
  · rintro w ⟨h, _, _⟩
    simp only [zani]
    rw [Tr.run_false zakx, Tr.run_leaf]
  · rintro i w hi ⟨h, hj, hd⟩
    have hlt := zanh hi
    have hn := hl.2 _ (zjb (l := l) (k := i) hlt default)
    have ho := z5x h (l.getD i default)
    have h120 : w.deeds < 120 := by unfold z6o at hi; omega
    obtain ⟨j1, j2⟩ := hstep w (l.getD i default) h hj h120
    refine ⟨(doW w (l.getD i default)).1, ?_, ho, j1, by rw [zanj _ (by omega), hd]; omega⟩
    simp only [zani]
    rw [Int.toNat_natCast, Tr.run_true (zaky hi), Tr.run_guard ⟨by omega, by rw [z2n]; omega⟩, Tr.run_bind (zakr h hn), Tr.run_guard ⟨by omega, by rw [z2n]; omega⟩, j2, Tr.run_guard (by rfl), Tr.run_false (by rfl), Tr.run_leaf, zz (by have := hl.1; omega)]
    rfl
theorem zank {w : Wld} (h : OkW w) (d : Deed) (r : Reply) : zb4 d r w = some (true, w) := by
  have hs : zo1 w.p.Stake.Bank = some 400000 := by rw [z7e, h.p.1.1.2.2.2.2.2.2.2]; rfl
  rw [zb4, zhu, Tr.run_bind (zaku h), Tr.run_bind hs, zq6, decide_eq_true h.p.1, Tr.run_guard (fun _ => ⟨rfl, trivial⟩), Tr.run_leaf]
  rfl
theorem zab3 {l : List Deed} (hl : zakz l) : zja l = some true := by
  obtain ⟨w, h1, -⟩ := z7v (look := zb4) (fun _ => True) trivial hl (fun w d h _ _ => ⟨trivial, zank (z5x h d) d _⟩)
  have h1 : zq4 l 0 newW = some (.inr w) := h1
  rw [zja, zkw, Tr.run_bind (v := (true, w)) (by
    rw [zvu, zmg, Tr.run_bind zafs, Tr.run_false (by rfl), Tr.run_bind zady, Tr.run_inr h1, Tr.run_leaf]), Tr.run_leaf]
theorem zak0 {w : Wld} (h : OkW w) (d : Deed) (r : Reply) : zdg d r w = some (true, w) := by
  have turn : ∀ (i : Nat), i < 2 → (zde (i : Int) w w.p).run = some (.inl (((i + 1 : Nat) : Int), w, w.p)) := by
    intro i hi
    have hi' : 0 ≤ (i : Int) ∧ (i : Int) < 2 := by omega
    have hw := h.c i hi'
    have hg : zam (ze w.consumers i) = some true := by rw [zpu (h.cfit hi'), hw.good]
    simp only [zde]
    rw [Tr.run_true (by simp; omega), Tr.run_bind (zakv h hi'), hg, Tr.run_guard (by rfl), Tr.run_guard (fun _ => ⟨hi', trivial⟩), Tr.run_guard (fun _ => ⟨hi', trivial⟩), Tr.run_false (by
      rw [hw.on, hw.gone]; simp), Tr.run_leaf, zz (by omega)]
  have loop : zjl 0 w w.p = some (.inr (w, w.p)) := by
    rw [zjl, zdw (s' := (((1 : Nat) : Int), w, w.p)) (turn 0 (by omega)), zdw (s' := (((2 : Nat) : Int), w, w.p)) (turn 1 (by omega)), zgc (r := .inr (w, w.p)) (by
      show (zde 2 w w.p).run = _
      simp only [zde]
      rw [Tr.run_false (by simp), Tr.run_leaf])]
  rw [zdg, zkx, Tr.run_bind (zaku h)]
  simp only []
  rw [Tr.run_inr loop, Tr.run_bind (zg9 h.fit), Tr.run_leaf, h.pr]
theorem zahj {l : List Deed} (hl : zakz l) : zmh l = some true := by
  obtain ⟨w, h1, -⟩ := z7v (look := zdg) (fun _ => True) trivial hl (fun w d h _ _ => ⟨trivial, zak0 (z5x h d) d _⟩)
  have h1 : zpr l 0 newW = some (.inr w) := h1
  rw [zmh, zom, Tr.run_bind (v := (true, w)) (by
    rw [zue, zky, Tr.run_bind zafs, Tr.run_false (by rfl), Tr.run_bind zady, Tr.run_inr h1, Tr.run_leaf]), Tr.run_leaf]
end Go.Proofs.YtmakmlnfbdablaaGreat.Ab
