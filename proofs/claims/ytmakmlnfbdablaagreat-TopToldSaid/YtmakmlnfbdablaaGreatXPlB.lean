/-
  The plain lemmas.
-/
import Derived.Test.YtmakmlnfbdablaaGreatXAbInsert
import Derived.Test.YtmakmlnfbdablaaGreatXFBank
import Derived.Test.YtmakmlnfbdablaaGreatXFCodec
import Derived.Test.YtmakmlnfbdablaaGreatXFCons
import Derived.Test.YtmakmlnfbdablaaGreatXFLine
import Derived.Test.YtmakmlnfbdablaaGreatXFProv
import Derived.Test.YtmakmlnfbdablaaGreatXFStakeA
import Derived.Test.YtmakmlnfbdablaaGreatXFStakeB
import Derived.Test.YtmakmlnfbdablaaGreatXFTop
import Derived.Test.YtmakmlnfbdablaaGreatXFWld
import Derived.Test.YtmakmlnfbdablaaGreatXPlA
namespace Go.Proofs.YtmakmlnfbdablaaGreat.Ab
open Go Go.RowKit
set_option linter.unusedVariables false
set_option linter.unusedSimpArgs false
def zrw (l : List Power) (id now : Int) : zb := ⟨true, false, 0, now, id, l, [], [], ⟨false, false, false, false, false, false⟩, ⟨[], [], 0, false⟩, ⟨0, 0, 0, 0⟩⟩
theorem zapd {l : List Power} {id now : Int} (hl : l.length * 16 ≤ 140737488355328) : zie l id now = some (zrw l id now) := by
  rw [zie, zjm, Tr.run_bind (zaik hl), Tr.run_leaf]; rfl
def zxg (c : zb) (s : List UInt8) : zb × Int :=
  if zki c = false then (c, 2) else if c.On = false then (c, 4) else if (zaz s).2 ≠ 0 then (c, (zaz s).2) else if (zaz s).1.Kind ≠ 1 then (c, 3)
  else ({ c with Pending := c.Pending ++ [(zaz s).1] }, 0)
theorem zat5 {c : zb} {a : ByteArray} (h : FitC 140737488351232 c) (ha : a.size ≤ 140737488355328) : zjn c a = some (zxg c a.data.toList) := by
  have e1 : zcz a = some (zaz a.data.toList) := z57 (s := a.data.toList) (by have : a.data.toList.length = a.size := rfl; omega)
  have e2 := h.pend
  rw [zjn, zk1, Tr.run_bind e1, Tr.run_bind (zuo h)]
  simp only [zail (l := c.Pending) (by omega), Option.isSome_some, Option.getD_some]
  unfold zxg
  cases hg : zki c with
  | false => rw [Tr.run_true (by rfl), Tr.run_leaf, if_pos rfl]
  | true =>
    rw [Tr.run_false (by rfl), if_neg (by simp)]
    cases ho : c.On with
    | false => rw [Tr.run_true (by rfl), Tr.run_leaf, if_pos rfl]
    | true =>
      rw [Tr.run_false (by rfl), if_neg (by simp)]
      by_cases hd : (zaz a.data.toList).2 = 0
      · rw [Tr.run_false (by simpa using hd), if_neg (by simpa using hd)]
        by_cases hk : (zaz a.data.toList).1.Kind = 1
        · rw [Tr.run_false (by simpa using hk), if_neg (by simpa using hk), Tr.run_guard (by trivial), Tr.run_guard (by simp only [zgy, List.length_singleton]; omega), Tr.run_leaf]
        · rw [Tr.run_true (by simpa using hk), if_pos hk, Tr.run_leaf]
      · rw [Tr.run_true (by simpa using hd), if_pos hd, Tr.run_leaf]
def zvo (p : Packet) (now : Int) (c : zb) : Int × zb :=
  if (zhq p).2 ≠ 0 then ((zhq p).2, c)
  else if (sayL c.Out (zhq p).1 (IntKind.i64.wrap (now + 40))).2 ≠ 0 then ((sayL c.Out (zhq p).1 (IntKind.i64.wrap (now + 40))).2, c)
  else (0, { c with Out := (sayL c.Out (zhq p).1 (IntKind.i64.wrap (now + 40))).1 })
theorem zag1 {p : Packet} {now : Int} {c : zb} (h : (zvo p now c).1 ≠ 0) : (zvo p now c).2 = c := by
  unfold zvo at h ⊢
  split
  · rfl
  · split
    · rfl
    · rename_i h1 h2
      rw [if_neg h1, if_neg h2] at h
      exact absurd rfl h
theorem z8s {p : Packet} {now : Int} {c : zb} : (zvo p now c).2.Ripes = c.Ripes := by
  unfold zvo
  repeat' split
  all_goals rfl
theorem zag2 {p : Packet} {now : Int} {c : zb} (h1 : p.Set.length * 16 ≤ 140737488351232) (h2 : p.Done.length * 8 ≤ 140737488351232) : zbo p now c = some (zvo p now c) := by
  rw [zbo, zmw, Tr.run_bind (z55 h1 h2)]
  unfold zvo
  by_cases he : (zhq p).2 = 0
  · rw [if_neg (by simpa using he), Tr.run_false (by simpa using he), Tr.run_bind (zaqy _ _ _)]
    by_cases hs : (sayL c.Out (zhq p).1 (IntKind.i64.wrap (now + 40))).2 = 0
    · rw [if_neg (by simpa using hs), Tr.run_false (by simpa using hs), Tr.run_leaf]
    · rw [if_pos hs, Tr.run_true (by simpa using hs), Tr.run_leaf]
  · rw [if_pos he, Tr.run_true (by simpa using he), Tr.run_leaf]
def clrC (c : zb) (v : Int) : zb := { c with Flags := c.Flags.set v false }
def zacx (c : zb) (l : List Int) : zb := l.foldl clrC c
theorem z6i : ∀ (l : List Int) (c : zb), zacx c l = { c with Flags := l.foldl (fun f v => f.set v false) c.Flags }
  | [], c => rfl
  | v :: l, c => by unfold zacx; rw [List.foldl_cons]; exact (z6i l (clrC c v)).trans rfl
def zqm (now : Int) (c : zb) (p : Packet) : zb :=
  { zacx { c with Set := zok c.Set p.Set, Id := p.Id } p.Done with Ripes := (zacx { c with Set := zok c.Set p.Set, Id := p.Id } p.Done).Ripes ++ [⟨p.Id, IntKind.i64.wrap (now + 15)⟩] }
theorem zxx (now : Int) (c : zb) (p : Packet) :
    zqm now c p = { c with Set := zok c.Set p.Set, Id := p.Id, Flags := p.Done.foldl (fun f v => f.set v false) c.Flags, Ripes := c.Ripes ++ [⟨p.Id, IntKind.i64.wrap (now + 15)⟩] } := by
  unfold zqm; rw [z6i]
def zrx (now : Int) : List Ripe → zb → zb
  | [], c => c
  | r :: rs, c => if r.Due ≤ now then (if (zvo ⟨2, r.Id, 0, 0, [], []⟩ now c).1 ≠ 0 then c else zrx now rs { (zvo ⟨2, r.Id, 0, 0, [], []⟩ now c).2 with Ripes := rs }) else c
def z8t (now : Int) (c : zb) : zb × Int :=
  if zki c = false then (c, 2) else if c.On = false then (c, 4) else if now < c.Time ∨ 1099511627776 < now then (c, 2)
  else (zrx now (c.Pending.foldl (zqm now) { c with Height := IntKind.i64.wrap (c.Height + 1), Time := now }).Ripes { c.Pending.foldl (zqm now) { c with Height := IntKind.i64.wrap (c.Height + 1), Time := now } with Pending := [] }, 0)
theorem zazo {now x2 x3 : Int} {x1 : List Packet} {l : List Int} {c z : zb} {p : Packet} (hl : l.length ≤ 9223372036854775807) (hv : ∀ v, v ∈ l → 0 ≤ v ∧ v ≤ 5) :
    zk2 now x1 x2 x3 l l.length 0 c z p = some (now, x1, x2, x3, zacx c l, z, p) := by
  rw [zk2]
  refine zln (F := fun s : Int × (List Packet) × Int × Int × (List Int) × Int × Int × zb × zb × Packet => (zft s.1 s.2.1 s.2.2.1 s.2.2.2.1 s.2.2.2.2.1 s.2.2.2.2.2.1 s.2.2.2.2.2.2.1 s.2.2.2.2.2.2.2.1 s.2.2.2.2.2.2.2.2.1 s.2.2.2.2.2.2.2.2.2).run) l 0
    (fun i t => (now, x1, x2, x3, l, (l.length : Int), (i : Int), t, z, p)) (fun _ _ => True) clrC (fun t => (now, x1, x2, x3, t, z, p)) ?_ ?_ c trivial
  · intro t _
    simp only [zft]; rw [Tr.run_false (by simp), Tr.run_leaf]
  · intro i t hi _
    have hm := hv _ (zfk (l := l) (k := i) hi 0)
    refine ⟨?_, trivial⟩
    simp only [zft, Int.toNat_natCast]
    rw [Tr.run_true (by simpa using hi), Tr.run_guard ⟨by omega, by rw [zqk]; omega⟩, Tr.run_guard (by omega), Tr.run_leaf, zx (by omega)]
    rfl
theorem z6j {l : List Packet} (h : l.all zny = true) : ∀ p, p ∈ l → zeb p = 0 ∧ p.Kind = 1 ∧ (∀ v, v ∈ p.Done → 0 ≤ v ∧ v ≤ 5) := by
  intro p hp
  have h1 := List.all_eq_true.1 h p hp
  unfold zny at h1
  simp only [Bool.and_eq_true, beq_iff_eq] at h1
  obtain ⟨g1, g2, g3, g4, g5, g6, g7, g8, g9, g10, _, _⟩ := zgz h1.2
  exact ⟨h1.2, h1.1, zxt g10 (by omega)⟩
theorem zazp {now : Int} {l : List Packet} {c z : zb} (hl : l.length ≤ 9223372036854775807) (hg : l.all zny = true) (hs : c.Set.length ≤ 9223372036854775807)
    (hp : ∀ p, p ∈ l → p.Set.length * 16 ≤ 140737488351232 ∧ p.Done.length * 8 ≤ 140737488351232) (hr : (c.Ripes.length + l.length) * 16 ≤ 140737488355328) :
    zk3 now l l.length 0 c z = some (now, l.foldl (zqm now) c, z) := by
  rw [zk3]
  refine zln (F := fun s : Int × (List Packet) × Int × Int × zb × zb => (zfu s.1 s.2.1 s.2.2.1 s.2.2.2.1 s.2.2.2.2.1 s.2.2.2.2.2).run) l default
    (fun i t => (now, l, (l.length : Int), (i : Int), t, z)) (fun i t => t.Ripes.length = c.Ripes.length + i ∧ t.Set.length ≤ 9223372036854775807) (zqm now) (fun t => (now, t, z)) ?_ ?_ c ⟨rfl, hs⟩
  · intro t _
    simp only [zfu]; rw [Tr.run_false (by simp), Tr.run_leaf]
  · intro i t hi ht
    obtain ⟨t1, t2⟩ := ht
    have hm := zfk (l := l) (k := i) hi default
    obtain ⟨p1, p2⟩ := hp _ hm
    obtain ⟨q1, q2, q3⟩ := z6j hg _ hm
    have hset := ztb (fun v => zw9 (l.getD i default).Set v (zb1 t.Set v))
    refine ⟨?_, by rw [zxx]; simp only [List.length_append, List.length_singleton]; omega, by rw [zxx]; unfold zok; simp only []; omega⟩
    simp only [zfu, Int.toNat_natCast]
    rw [Tr.run_true (by simpa using hi), Tr.run_guard ⟨by omega, by rw [zgy]; omega⟩, Tr.run_bind (zaak t2 (by omega)), Tr.run_bind (zazo (by omega) q3)]
    simp only []
    rw [Tr.run_guard (by simp only [znt, List.length_singleton, z6i]; omega), Tr.run_leaf, zx (by omega)]
    rfl
theorem zaq1 {now : Int} {z : zb} : ∀ (rs : List Ripe) (c : zb), c.Ripes = rs → zb6 now c z = some (zrx now rs c, z)
  | [], c, h => by
    rw [zb6]
    refine ze4 ?_
    simp only [zd1, h]
    rw [Tr.run_guard (by simp), Tr.run_false (by simp), Tr.run_leaf]
    rfl
  | r :: rs, c, h => by
    have hlen : (Sl.len (.ripes (r :: rs))) = rs.length + 1 := rfl
    unfold zrx
    by_cases hd : r.Due ≤ now
    · rw [if_pos hd]
      by_cases hs : (zvo ⟨2, r.Id, 0, 0, [], []⟩ now c).1 = 0
      · rw [if_neg (by simpa using hs), ← zaq1 rs { (zvo ⟨2, r.Id, 0, 0, [], []⟩ now c).2 with Ripes := rs } rfl, zb6, zb6]
        refine zde ?_
        simp only [zd1, h, List.getD_cons_zero, hlen, z8s]
        rw [Tr.run_guard (by intro _; exact ⟨⟨by omega, by omega⟩, trivial⟩), Tr.run_true (by simp [hd]), Tr.run_guard (by omega), Tr.run_bind (zag2 (by simp) (by simp)), Tr.run_false (by simpa using hs)]
        simp only [z8s, h, hlen]
        rw [Tr.run_guard (by omega), Tr.run_leaf]
        simp only [List.drop_succ_cons, List.drop_zero, Int.toNat_natCast, Nat.add_sub_cancel, List.take_length]
      · rw [if_pos hs, zb6]
        refine ze4 ?_
        simp only [zd1, h, List.getD_cons_zero, hlen]
        rw [Tr.run_guard (by intro _; exact ⟨⟨by omega, by omega⟩, trivial⟩), Tr.run_true (by simp [hd]), Tr.run_guard (by omega), Tr.run_bind (zag2 (by simp) (by simp)), Tr.run_true (by simpa using hs), Tr.run_leaf, zag1 hs]
    · rw [if_neg hd, zb6]
      refine ze4 ?_
      simp only [zd1, h, List.getD_cons_zero, hlen]
      rw [Tr.run_guard (by intro _; exact ⟨⟨by omega, by omega⟩, trivial⟩), Tr.run_false (by simp [hd]), Tr.run_leaf]
theorem zcr {c : zb} (h : zki c = true) : zae5 c ∧ ze5 c.Out ∧ zw 1 (-1) c.Set = true ∧ c.Ripes.all znx = true ∧ c.Pending.all zny = true := by
  unfold zki at h
  simp only [Bool.and_eq_true, decide_eq_true_eq] at h
  exact ⟨h.1.1.1.1, h.1.1.1.2, h.1.1.2, h.1.2, h.2⟩
theorem zazq {now : Int} {c : zb} (h : FitC 140737488351232 c) (hr : (c.Ripes.length + c.Pending.length) * 16 ≤ 140737488355328) : zy c now = some (z8t now c) := by
  have e1 := h.set; have e2 := h.pend; have e3 := h.ripes
  rw [zy, zmy, Tr.run_bind (zuo h)]
  unfold z8t
  cases hg : zki c with
  | false => rw [Tr.run_true (by rfl), Tr.run_leaf, if_pos rfl]
  | true =>
    obtain ⟨_, _, _, _, hp⟩ := zcr hg
    rw [Tr.run_false (by rfl), if_neg (by simp)]
    cases ho : c.On with
    | false => rw [Tr.run_true (by rfl), Tr.run_leaf, if_pos rfl]
    | true =>
      rw [Tr.run_false (by rfl), if_neg (by simp)]
      by_cases ht : now < c.Time ∨ 1099511627776 < now
      · rw [if_pos ht, Tr.run_true (by simpa using ht), Tr.run_leaf]
      · rw [if_neg ht, Tr.run_false (by simp; omega), Tr.run_bind (zaim (by omega))]
        rw [Tr.run_bind (zazp (by omega) hp (by simp only []; omega) h.ps (by simp only []; omega))]
        simp only []
        rw [Tr.run_bind (zaq1 _ _ rfl), Tr.run_leaf, ho]
theorem zzf {now : Int} : ∀ (l : List Packet) (c : zb), (l.foldl (zqm now) c).Ripes.length = c.Ripes.length + l.length ∧ (l.foldl (zqm now) c).Out = c.Out ∧ (l.foldl (zqm now) c).On = c.On ∧ (l.foldl (zqm now) c).Gone = c.Gone ∧ (l.foldl (zqm now) c).Height = c.Height ∧ (l.foldl (zqm now) c).Time = c.Time
  | [], c => ⟨rfl, rfl, rfl, rfl, rfl, rfl⟩
  | p :: l, c => by
    rw [List.foldl_cons]
    obtain ⟨h1, h2, h3, h4, h5, h6⟩ := zzf l (zqm now c p)
    rw [zxx] at h1 h2 h3 h4 h5 h6 ⊢
    refine ⟨?_, h2, h3, h4, h5, h6⟩
    rw [h1]
    show (c.Ripes ++ [(⟨p.Id, IntKind.i64.wrap (now + 15)⟩ : Ripe)]).length + l.length = _
    rw [List.length_append, List.length_singleton, List.length_cons]
    omega
end Go.Proofs.YtmakmlnfbdablaaGreat.Ab
namespace Go.Proofs.YtmakmlnfbdablaaGreat.Ab
open Go Go.RowKit
set_option linter.unusedVariables false
set_option linter.unusedSimpArgs false
theorem z8u : ∀ {l : List Power} {p v : Int}, zw 1 p l = true → zb1 l v = 0 ∨ 1 ≤ zb1 l v
  | [], _, _, _ => .inl rfl
  | a :: l, p, v, h => by
    rw [zw] at h
    simp only [Bool.and_eq_true, decide_eq_true_eq] at h
    unfold zb1
    split
    · exact .inr h.1.1.2
    · exact z8u h.2
def z6k (c : zb) (v now : Int) : zb × Int :=
  if zki c = false ∨ now < 0 ∨ 1099511627776 < now then (c, 2) else if c.On = false ∨ v < 0 ∨ 5 < v ∨ zb1 c.Set v = 0 then (c, 4) else if c.Flags.get v = true then (c, 5)
  else if (zvo ⟨3, c.Id, v, zb1 c.Set v, [], []⟩ now c).1 ≠ 0 then (c, (zvo ⟨3, c.Id, v, zb1 c.Set v, [], []⟩ now c).1)
  else ({ (zvo ⟨3, c.Id, v, zb1 c.Set v, [], []⟩ now c).2 with Flags := (zvo ⟨3, c.Id, v, zb1 c.Set v, [], []⟩ now c).2.Flags.set v true }, 0)
theorem zat6 {c : zb} {v now : Int} (h : FitC 140737488351232 c) : zer c v now = some (z6k c v now) := by
  have e1 := h.set
  have hsay := fun n => zag2 (p := ⟨3, c.Id, v, n, [], []⟩) (now := now) (c := c) (by simp) (by simp)
  rw [zer, zk4, Tr.run_bind (zuo h)]
  simp only [zag0 (l := c.Set) (v := v) (by omega), hsay, Option.isSome_some, Option.getD_some]
  unfold z6k
  by_cases h1 : zki c = false ∨ now < 0 ∨ 1099511627776 < now
  · rw [if_pos h1, Tr.run_true (by simpa [or_assoc] using h1), Tr.run_leaf]
  · rw [if_neg h1, Tr.run_false (by rw [Bool.eq_false_iff]; intro k; apply h1; simpa [or_assoc] using k), Tr.run_guard (by simp)]
    by_cases h2 : c.On = false ∨ v < 0 ∨ 5 < v ∨ zb1 c.Set v = 0
    · rw [if_pos h2, Tr.run_true (by
        simp only [Bool.or_eq_true, Bool.not_eq_true', decide_eq_true_eq, beq_iff_eq]
        rcases h2 with h2 | h2 | h2 | h2
        · exact .inl (.inl (.inl h2))
        · exact .inl (.inl (.inr h2))
        · exact .inl (.inr (by omega))
        · exact .inr h2), Tr.run_leaf]
    · simp only [not_or] at h2
      rw [if_neg (by simp only [not_or]; exact h2), Tr.run_false (by
        simp only [Bool.or_eq_false_iff, Bool.not_eq_false', decide_eq_false_iff_not, beq_eq_false_iff_ne]
        exact ⟨⟨⟨by simpa using h2.1, h2.2.1⟩, by omega⟩, h2.2.2.2⟩), Tr.run_guard (by omega)]
      by_cases h3 : c.Flags.get v = true
      · rw [if_pos h3, Tr.run_true h3, Tr.run_leaf]
      · rw [if_neg h3, Tr.run_false (by simpa using h3), Tr.run_guard (by trivial), Tr.run_guard (by trivial)]
        by_cases h4 : (zvo ⟨3, c.Id, v, zb1 c.Set v, [], []⟩ now c).1 = 0
        · rw [if_neg (by simpa using h4), Tr.run_false (by simpa using h4), Tr.run_guard (by omega), Tr.run_leaf]
        · rw [if_pos h4, Tr.run_true (by simpa using h4), Tr.run_leaf, zag1 h4]
def maxC (c : zb) (v : Int) : Int := if zb1 c.Set v = 0 then 1 else zb1 c.Set v
def zsm (c : zb) (v id now : Int) : zb × Int :=
  if zki c = false ∨ now < 0 ∨ 1099511627776 < now then (c, 2) else if c.On = false ∨ v < 0 ∨ 5 < v then (c, 4) else if id < 1 ∨ c.Id < id then (c, 2)
  else ((zvo ⟨4, id, v, maxC c v, [], []⟩ now c).2, (zvo ⟨4, id, v, maxC c v, [], []⟩ now c).1)
theorem zal1 {c : zb} {v id now : Int} (h : FitC 140737488351232 c) : zdl c v id now = some (zsm c v id now) := by
  have e1 := h.set
  rw [zdl, zif, Tr.run_bind (zuo h)]
  unfold zsm
  by_cases h1 : zki c = false ∨ now < 0 ∨ 1099511627776 < now
  · rw [if_pos h1, Tr.run_true (by simpa [or_assoc] using h1), Tr.run_leaf]
  · rw [if_neg h1, Tr.run_false (by rw [Bool.eq_false_iff]; intro k; apply h1; simpa [or_assoc] using k)]
    by_cases h2 : c.On = false ∨ v < 0 ∨ 5 < v
    · rw [if_pos h2, Tr.run_true (by
        simp only [Bool.or_eq_true, Bool.not_eq_true', decide_eq_true_eq]
        rcases h2 with h2 | h2 | h2
        · exact .inl (.inl h2)
        · exact .inl (.inr h2)
        · exact .inr (by omega)), Tr.run_leaf]
    · simp only [not_or] at h2
      rw [if_neg (by simp only [not_or]; exact h2), Tr.run_false (by
        simp only [Bool.or_eq_false_iff, Bool.not_eq_false', decide_eq_false_iff_not]
        exact ⟨⟨by simpa using h2.1, h2.2.1⟩, by omega⟩)]
      by_cases h3 : id < 1 ∨ c.Id < id
      · rw [if_pos h3, Tr.run_true (by simpa using h3), Tr.run_leaf]
      · have hg : zki c = true := by simp only [not_or] at h1; simpa using h1.1
        have hf := z8u (v := v) (zcr hg).2.2.1
        have hm : (if zb1 c.Set v > 1 then zb1 c.Set v else 1) = maxC c v := by
          unfold maxC
          rcases hf with hf | hf
          · rw [if_neg (by omega), if_pos hf]
          · rw [if_neg (show ¬ zb1 c.Set v = 0 by omega)]
            split <;> omega
        rw [if_neg h3, Tr.run_false (by simp; omega), Tr.run_bind (zag0 (by omega)), hm, Tr.run_bind (zag2 (by simp) (by simp))]
        by_cases h4 : (zvo ⟨4, id, v, maxC c v, [], []⟩ now c).1 = 0
        · rw [Tr.run_false (by simpa using h4), Tr.run_leaf, h4]
        · rw [Tr.run_true (by simpa using h4), Tr.run_leaf]
def zz5 (c : zb) : zb := if c.On = false then c else { c with On := false, Gone := true, Out := { c.Out with Closed := true } }
theorem zacy {c : zb} : zg9 c = some (zz5 c) := by
  rw [zg9, zig]
  unfold zz5
  cases ho : c.On with
  | false => rw [Tr.run_true (by rfl), Tr.run_leaf, if_pos rfl]
  | true => rw [Tr.run_false (by rfl), Tr.run_leaf, if_neg (by simp)]
end Go.Proofs.YtmakmlnfbdablaaGreat.Ab
namespace Go.Proofs.YtmakmlnfbdablaaGreat.Ab
open Go Go.RowKit
set_option linter.unusedVariables false
set_option linter.unusedSimpArgs false
theorem zae6 {l : zeg} {s : ByteArray} {u : Int} (h : (sayL l s u).2 = 0) : ze5 l ∧ 0 ≤ u ∧ l.Closed = false ∧ l.Said.length < 400 ∧ sayL l s u = ({ l with Said := l.Said ++ [s], Due := l.Due ++ [u] }, 0) := by
  unfold sayL at h ⊢
  by_cases h1 : ¬ ze5 l ∨ u < 0
  · rw [if_pos h1] at h; cases h
  · rw [if_neg h1] at h ⊢
    simp only [not_or, Classical.not_not] at h1
    by_cases h2 : l.Closed = true
    · rw [if_pos h2] at h; cases h
    · rw [if_neg h2] at h ⊢
      by_cases h3 : 400 ≤ l.Said.length
      · rw [if_pos h3] at h; cases h
      · rw [if_neg h3]
        exact ⟨h1.1, by omega, by simpa using h2, by omega, rfl⟩
theorem zapf {l : zeg} {s : ByteArray} {u : Int} (h1 : ze5 l) (h2 : 0 ≤ u) (h3 : l.Closed = false) (h4 : l.Said.length < 400) : sayL l s u = ({ l with Said := l.Said ++ [s], Due := l.Due ++ [u] }, 0) := by
  unfold sayL
  rw [if_neg (by simp only [not_or, Classical.not_not]; exact ⟨h1, by omega⟩), if_neg (by rw [h3]; simp), if_neg (by omega)]
theorem z8v {l : zeg} {s : ByteArray} {u : Int} (h1 : ze5 l) (h2 : 0 ≤ u) (h4 : l.Said.length < 400) : ze5 { l with Said := l.Said ++ [s], Due := l.Due ++ [u] } := by
  obtain ⟨g1, g2, g3, g4, g5⟩ := h1
  refine ⟨by simp [g1], by simp only [List.length_append, List.length_singleton]; omega, g3, by simp only [List.length_append, List.length_singleton]; omega, ?_⟩
  simp only [List.any_append, g5, Bool.false_or, List.any_cons, List.any_nil, Bool.or_false, decide_eq_false_iff_not]
  omega
theorem zal2 {p : Packet} {now : Int} {c : zb} (h : (zvo p now c).1 = 0) : zeb p = 0 ∧ (sayL c.Out (txt (zqr p)) (IntKind.i64.wrap (now + 40))).2 = 0 ∧
    zvo p now c = (0, { c with Out := { c.Out with Said := c.Out.Said ++ [txt (zqr p)], Due := c.Out.Due ++ [IntKind.i64.wrap (now + 40)] } }) := by
  have hg : zeb p = 0 := by
    refine Classical.byContradiction fun hn => ?_
    unfold zvo at h
    rw [zaes hn, if_pos hn] at h
    exact hn h
  unfold zvo at h ⊢
  rw [znu hg, if_neg (by simp)] at h ⊢
  simp only at h ⊢
  by_cases hs : (sayL c.Out (txt (zqr p)) (IntKind.i64.wrap (now + 40))).2 = 0
  · rw [if_neg (by simpa using hs), (zae6 hs).2.2.2.2]
    exact ⟨hg, rfl, rfl⟩
  · rw [if_pos hs] at h
    exact absurd h hs
theorem zapg {p : Packet} {now : Int} {c : zb} (hg : zeb p = 0) (h1 : ze5 c.Out) (h2 : 0 ≤ IntKind.i64.wrap (now + 40)) (h3 : c.Out.Closed = false) (h4 : c.Out.Said.length < 400) :
    zvo p now c = (0, { c with Out := { c.Out with Said := c.Out.Said ++ [txt (zqr p)], Due := c.Out.Due ++ [IntKind.i64.wrap (now + 40)] } }) := by
  unfold zvo
  rw [znu hg, if_neg (by simp)]
  simp only
  rw [zapf h1 h2 h3 h4, if_neg (by simp)]
theorem zry {c : zb} (h1 : zae5 c) (h2 : ze5 c.Out) (h3 : zw 1 (-1) c.Set = true) (h4 : c.Ripes.all znx = true) (h5 : c.Pending.all zny = true) : zki c = true := by
  unfold zki
  rw [decide_eq_true h1, decide_eq_true h2, h3, h4, h5]; rfl
theorem zaph {now : Int} {c : zb} (h1 : zki c = true) (h2 : c.On = true) (h3 : c.Time ≤ now) (h4 : now ≤ 1099511627776) :
    z8t now c = (zrx now (c.Pending.foldl (zqm now) { c with Height := IntKind.i64.wrap (c.Height + 1), Time := now }).Ripes { c.Pending.foldl (zqm now) { c with Height := IntKind.i64.wrap (c.Height + 1), Time := now } with Pending := [] }, 0) := by
  unfold z8t
  rw [if_neg (by rw [h1]; simp), if_neg (by rw [h2]; simp), if_neg (by omega)]
theorem zag3 {c : zb} {v now : Int} (h : (z6k c v now).2 = 0) : zki c = true ∧ 0 ≤ now ∧ now ≤ 1099511627776 ∧ c.On = true ∧ 0 ≤ v ∧ v ≤ 5 ∧ zb1 c.Set v ≠ 0 ∧ (zvo ⟨3, c.Id, v, zb1 c.Set v, [], []⟩ now c).1 = 0 ∧
    z6k c v now = ({ (zvo ⟨3, c.Id, v, zb1 c.Set v, [], []⟩ now c).2 with Flags := (zvo ⟨3, c.Id, v, zb1 c.Set v, [], []⟩ now c).2.Flags.set v true }, 0) := by
  unfold z6k at h ⊢
  by_cases h1 : zki c = false ∨ now < 0 ∨ 1099511627776 < now
  · rw [if_pos h1] at h; cases h
  · rw [if_neg h1] at h ⊢
    by_cases h2 : c.On = false ∨ v < 0 ∨ 5 < v ∨ zb1 c.Set v = 0
    · rw [if_pos h2] at h; cases h
    · rw [if_neg h2] at h ⊢
      by_cases h3 : c.Flags.get v = true
      · rw [if_pos h3] at h; cases h
      · rw [if_neg h3] at h ⊢
        by_cases h4 : (zvo ⟨3, c.Id, v, zb1 c.Set v, [], []⟩ now c).1 = 0
        · rw [if_neg (by simpa using h4)]
          simp only [not_or] at h1 h2
          exact ⟨by simpa using h1.1, by omega, by omega, by simpa using h2.1, by omega, by omega, h2.2.2.2, h4, rfl⟩
        · rw [if_pos h4] at h
          exact absurd h h4
end Go.Proofs.YtmakmlnfbdablaaGreat.Ab
namespace Go.Proofs.YtmakmlnfbdablaaGreat.Ab
open Go Go.RowKit
set_option linter.unusedVariables false
set_option linter.unusedSimpArgs false
theorem z6l : ze5 ⟨[], [], 0, false⟩ := ⟨rfl, by decide, by decide, by decide, by decide⟩
theorem zal3 {id : Int} (h1 : 1 ≤ id) (h2 : id ≤ 1099511627776) : zeb ⟨2, id, 0, 0, [], []⟩ = 0 := by
  unfold zeb
  rw [if_neg (by simp), if_neg (by simp; omega), if_neg (by simp), if_neg (by simp [zw]), if_neg (by simp [zap])]
end Go.Proofs.YtmakmlnfbdablaaGreat.Ab
namespace Go.Proofs.YtmakmlnfbdablaaGreat.Ab
open Go Go.RowKit
set_option linter.unusedVariables false
set_option linter.unusedSimpArgs false
theorem zae7 {m p q : Int} {l : List Power} (h : zw m q l = true) (hp : p ≤ q) : zw m p l = true := by
  cases l with
  | nil => rfl
  | cons a l =>
    simp only [zw, Bool.and_eq_true, decide_eq_true_eq] at h ⊢
    exact ⟨⟨⟨⟨by omega, h.1.1.1.2⟩, h.1.1.2⟩, h.1.2⟩, h.2⟩
theorem zpo {m p w n : Int} {s l : List Power} (hs : s = [] ∨ (s = [⟨w, n⟩] ∧ m ≤ n ∧ n ≤ 1125899906842624)) (hp : p < w) (hw : w ≤ 5) (hl : zw m w l = true) : zw m p (s ++ l) = true := by
  rcases hs with rfl | ⟨rfl, h1, h2⟩
  · exact zae7 hl (by omega)
  · simp only [List.cons_append, List.nil_append, zw, Bool.and_eq_true, decide_eq_true_eq]
    exact ⟨⟨⟨⟨hp, hw⟩, h1⟩, h2⟩, hl⟩
theorem z2m {w n : Int} (h : n ≤ 1125899906842624) : ztk w n = [] ∨ (ztk w n = [⟨w, n⟩] ∧ (1 : Int) ≤ n ∧ n ≤ 1125899906842624) := by
  unfold ztk
  by_cases hn : 0 < n
  · rw [if_pos hn]; exact .inr ⟨rfl, by omega, h⟩
  · rw [if_neg hn]; exact .inl rfl
theorem zapi {f : Nat → Int} (h : ∀ v, f v ≤ 1125899906842624) : zw 1 (-1) (zef f) = true := by
  rw [zuf]
  exact zpo (z2m (h 0)) (by omega) (by omega) (zpo (z2m (h 1)) (by omega) (by omega) (zpo (z2m (h 2)) (by omega) (by omega) (zpo (z2m (h 3)) (by omega) (by omega)
    (zpo (z2m (h 4)) (by omega) (by omega) (zpo (z2m (h 5)) (by omega) (by omega) rfl)))))
end Go.Proofs.YtmakmlnfbdablaaGreat.Ab
namespace Go.Proofs.YtmakmlnfbdablaaGreat.Ab
open Go Go.RowKit
set_option linter.unusedVariables false
set_option linter.unusedSimpArgs false
abbrev ziq (L : Links) (c : Int) : zeg := ⟨L.Said.get c, L.Due.get c, L.Got.get c, L.Closed.get c⟩
def okLk (p : za) (c : Int) : Bool := !(p.Links.On.get c && p.Links.Gone.get c) && decide (0 ≤ p.Links.Base.get c) && decide (p.Links.Base.get c ≤ p.Height) && zw 1 (-1) (p.Links.Told.get c) && decide (ze5 (ziq p.Links c)) && zap (-1) (p.Links.Done.get c)
def zya (p : za) (a : Asked) : Bool := decide (0 ≤ a.C) && decide (a.C < 2) && p.Links.On.get a.C && (zeb a.P == 0) && !(a.P.Kind == 1)
def z3m (p : za) : Prop := 0 ≤ p.Height ∧ p.Height < 1099511627776 ∧ 0 ≤ p.Time ∧ p.Time ≤ 1099511627776
instance (p : za) : Decidable (z3m p) := inferInstanceAs (Decidable (_ ∧ _))
def zad (p : za) : Bool := decide (GoodS p.Stake) && decide (z3m p) && zw 1 (-1) p.Set && okLk p 0 && okLk p 1 && p.Queue.all (zya p)
structure FitPr (R : Nat) (p : za) : Prop where
  waits : p.Stake.Waits.length * 64 ≤ R
  set : p.Set.length * 16 ≤ R
  told : ∀ c, (p.Links.Told.get c).length * 16 ≤ R
  done : ∀ c, (p.Links.Done.get c).length * 8 ≤ R
  said : ∀ c, (p.Links.Said.get c).length * 16 ≤ R
  due : ∀ c, (p.Links.Due.get c).length * 8 ≤ R
  queue : p.Queue.length * 88 ≤ R
  ps : ∀ a, a ∈ p.Queue → a.P.Set.length * 16 ≤ R ∧ a.P.Done.length * 8 ≤ R
theorem FitPr.mono {R S : Nat} {p : za} (h : FitPr R p) (hr : R ≤ S) : FitPr S p :=
  ⟨Nat.le_trans h.waits hr, Nat.le_trans h.set hr, fun c => Nat.le_trans (h.told c) hr, fun c => Nat.le_trans (h.done c) hr, fun c => Nat.le_trans (h.said c) hr, fun c => Nat.le_trans (h.due c) hr, Nat.le_trans h.queue hr,
    fun a ha => ⟨Nat.le_trans (h.ps a ha).1 hr, Nat.le_trans (h.ps a ha).2 hr⟩⟩
theorem zal4 {L : Links} {c : Int} {p : za} {k : Link} {l : List Int} (hp : k.Done = l) (hl : l.length ≤ 9223372036854775807) :
    ∃ r, zqb L c l l.length 0 p k = some r ∧ (match r with | .inl b => b = false ∧ zap (-1) l = false | .inr x => x = (L, c, p) ∧ zap (-1) l = true) := by
  have := zts (F := fun s : Links × Int × (List Int) × Int × Int × za × Link => (zha s.1 s.2.1 s.2.2.1 s.2.2.2.1 s.2.2.2.2.1 s.2.2.2.2.2.1 s.2.2.2.2.2.2).run)
    (fun s => s.1 = L ∧ s.2.1 = c ∧ s.2.2.1 = l ∧ s.2.2.2.1 = l.length ∧ 0 ≤ s.2.2.2.2.1 ∧ s.2.2.2.2.1 ≤ l.length ∧ s.2.2.2.2.2.1 = p ∧ s.2.2.2.2.2.2 = k ∧ (0 < s.2.2.2.2.1 → 0 ≤ zpi l s.2.2.2.2.1)) (fun s => l.length - s.2.2.2.2.1.toNat)
    (fun s r => match r with | .inl b => b = false ∧ zap (zpi l s.2.2.2.2.1) (l.drop s.2.2.2.2.1.toNat) = false | .inr x => x = (L, c, p) ∧ zap (zpi l s.2.2.2.2.1) (l.drop s.2.2.2.2.1.toNat) = true) ?_ (L, c, l, (l.length : Int), 0, p, k) ⟨rfl, rfl, rfl, rfl, by simp, by simp, rfl, rfl, by simp⟩
  · exact this
  · rintro ⟨y0, y1, x0, x1, x2, x3, x4⟩ ⟨g1, g2, h1, h2, h3, h4, h5, g3, h6⟩
    simp only at g1 g2 g3 h1 h2 h3 h4 h5 h6
    rw [g1, g2, g3, h1, h2, h5] at *
    simp only [zha, hp]
    by_cases hc : x2 < l.length
    · have hs := zay (l := l) (k := x2.toNat) (by omega) 0
      rw [Tr.run_true (by simpa using hc), Tr.run_guard ⟨h3, hc⟩, Tr.run_guard (by
        intro h _
        simp only [decide_eq_true_eq] at h
        rw [zn (x := x2 - 1) (by omega) (by omega)]
        exact ⟨⟨by omega, by simp only [Sl.len]; omega⟩, trivial⟩)]
      rw [hs]
      have hp : (decide (x2 > 0) && decide (l.getD (IntKind.i64.wrap (x2 - 1)).toNat 0 ≥ l.getD x2.toNat 0)) = (decide (x2 > 0) && decide (zpi l x2 ≥ l.getD x2.toNat 0)) := by
        by_cases h0 : x2 > 0
        · rw [zn (x := x2 - 1) (by omega) (by omega)]
          unfold zpi
          rw [if_neg (by omega)]
        · simp [h0]
      rw [hp]
      generalize hq : l.getD x2.toNat 0 = q at *
      by_cases hd : zpi l x2 < q ∧ q ≤ 5
      · obtain ⟨d1, d2⟩ := hd
        have hw : IntKind.i64.wrap (x2 + 1) = x2 + 1 := zn (by omega) (by omega)
        have hpv : zpi l (x2 + 1) = q := by unfold zpi; rw [if_neg (by omega), show x2 + 1 - 1 = x2 by omega, hq]
        have hq0 : 0 ≤ q := by
          by_cases h0 : x2 > 0
          · have := h6 h0; omega
          · have : zpi l x2 = -1 := by unfold zpi; rw [if_pos (by omega)]
            omega
        refine .inl ⟨_, by rw [Tr.run_false (by simp; omega), Tr.run_leaf, hw], ⟨rfl, rfl, rfl, rfl, ?_, ?_, rfl, rfl, ?_⟩, ?_, ?_⟩
        · simp only []; omega
        · simp only []; omega
        · simp only []; rw [hpv]; intro _; omega
        · simp only []; omega
        · simp only []
          rw [hpv, show (x2 + 1).toNat = x2.toNat + 1 by omega]
          intro r hr
          rw [zap, decide_eq_true d1, decide_eq_true d2]
          simpa using hr
      · refine .inr ⟨_, by rw [Tr.run_true (by
          by_cases h0 : x2 > 0
          · have := h6 h0
            simp [h0]; omega
          · have : zpi l x2 = -1 := by unfold zpi; rw [if_pos (by omega)]
            simp [h0]; omega), Tr.run_leaf], ?_⟩
        refine ⟨rfl, ?_⟩
        rw [zap]
        simp only [Bool.and_eq_false_iff, decide_eq_false_iff_not]
        omega
    · refine .inr ⟨_, by rw [Tr.run_false (by simpa using hc), Tr.run_leaf], ?_⟩
      refine ⟨rfl, ?_⟩
      rw [List.drop_eq_nil_of_le (by omega)]; rfl
theorem zapj {l : List Power} (hl : l.length ≤ 9223372036854775807) :
    ∃ r, zrn l l l.length 0 = some r ∧ (match r with | .inl b => b = false ∧ zw 1 (-1) l = false | .inr x => zw 1 (-1) l = true) := by
  have := zts (F := fun s : (List Power) × (List Power) × Int × Int => (zih s.1 s.2.1 s.2.2.1 s.2.2.2).run)
    (fun s => s.1 = l ∧ s.2.1 = l ∧ s.2.2.1 = l.length ∧ 0 ≤ s.2.2.2 ∧ s.2.2.2 ≤ l.length ∧ -1 ≤ zhf l s.2.2.2 ∧ (0 < s.2.2.2 → 0 ≤ zhf l s.2.2.2)) (fun s => l.length - s.2.2.2.toNat)
    (fun s r => match r with | .inl b => b = false ∧ zw 1 (zhf l s.2.2.2) (l.drop s.2.2.2.toNat) = false | .inr x => zw 1 (zhf l s.2.2.2) (l.drop s.2.2.2.toNat) = true) ?_ (l, l, (l.length : Int), 0) ⟨rfl, rfl, rfl, by simp, by simp, by simp [zhf], by simp⟩
  · exact this
  · rintro ⟨y0, x0, x1, x2⟩ ⟨g1, h1, h2, h3, h4, h6, h7⟩
    simp only at g1 h1 h2 h3 h4 h6 h7
    rw [g1, h1, h2] at *
    simp only [zih]
    by_cases hc : x2 < l.length
    · have hs := zay (l := l) (k := x2.toNat) (by omega) default
      rw [Tr.run_true (by simpa using hc), Tr.run_guard ⟨h3, hc⟩, Tr.run_guard (by
        intro h _
        simp only [decide_eq_true_eq] at h
        rw [zn (x := x2 - 1) (by omega) (by omega)]
        exact ⟨⟨by omega, by simp only [Sl.len]; omega⟩, trivial⟩)]
      rw [hs]
      have hp : (decide (x2 > 0) && decide ((l.getD (IntKind.i64.wrap (x2 - 1)).toNat default).V ≥ (l.getD x2.toNat default).V)) = (decide (x2 > 0) && decide (zhf l x2 ≥ (l.getD x2.toNat default).V)) := by
        by_cases h0 : x2 > 0
        · rw [zn (x := x2 - 1) (by omega) (by omega)]
          unfold zhf
          rw [if_neg (by omega)]
        · simp [h0]
      rw [hp]
      generalize hq : l.getD x2.toNat default = q at *
      by_cases hd : zhf l x2 < q.V ∧ q.V ≤ 5 ∧ 1 ≤ q.N ∧ q.N ≤ 1125899906842624
      · obtain ⟨d1, d2, d3, d4⟩ := hd
        have hw : IntKind.i64.wrap (x2 + 1) = x2 + 1 := zn (by omega) (by omega)
        have hpv : zhf l (x2 + 1) = q.V := by unfold zhf; rw [if_neg (by omega), show x2 + 1 - 1 = x2 by omega, hq]
        refine .inl ⟨_, by rw [Tr.run_false (by simp; omega), Tr.run_leaf, hw], ⟨rfl, rfl, rfl, ?_, ?_, ?_, ?_⟩, ?_, ?_⟩
        · simp only []; omega
        · simp only []; omega
        · simp only []; rw [hpv]; omega
        · simp only []; rw [hpv]; intro _; omega
        · simp only []; omega
        · simp only []
          rw [hpv, show (x2 + 1).toNat = x2.toNat + 1 by omega]
          intro r hr
          rw [zw, decide_eq_true d1, decide_eq_true d2, decide_eq_true d3, decide_eq_true d4]
          simpa using hr
      · refine .inr ⟨_, by rw [Tr.run_true (by
          by_cases h0 : x2 > 0
          · have := h7 h0
            simp [h0]; omega
          · have : zhf l x2 = -1 := by unfold zhf; rw [if_pos (by omega)]
            simp [h0]; omega), Tr.run_leaf], ?_⟩
        refine ⟨rfl, ?_⟩
        rw [zw]
        simp only [Bool.and_eq_false_iff, decide_eq_false_iff_not]
        omega
    · refine .inr ⟨_, by rw [Tr.run_false (by simpa using hc), Tr.run_leaf], ?_⟩
      rw [List.drop_eq_nil_of_le (by omega)]; rfl
theorem zxy {l : List Power} (hl : l.length ≤ 9223372036854775807) : zd6 l = some (zw 1 (-1) l) := by
  obtain ⟨r, h1, h2⟩ := zapj hl
  rw [zd6, zm0]
  cases r with
  | inl b => rw [Tr.run_inl h1, Tr.run_leaf, h2.1, h2.2]
  | inr x => rw [Tr.run_inr h1, Tr.run_leaf, h2]
theorem zazr {p : za} {a : Asked} (h : a.P.Set.length * 16 ≤ 140737488351232 ∧ a.P.Done.length * 8 ≤ 140737488351232) : zk5 a p = some (!zya p a, p) := by
  rw [zk5, zii, Tr.run_guard (by
    intro h0
    simp only [Bool.or_eq_false_iff, decide_eq_false_iff_not] at h0
    exact ⟨⟨by omega, by omega⟩, trivial⟩), Tr.run_guard (fun _ => ⟨by rw [z1q h.1 h.2]; rfl, trivial⟩), Tr.run_leaf, z1q h.1 h.2]
  congr 2
  unfold zya
  simp only [Option.getD_some]
  have e1 : decide (a.C < 0) = !decide (0 ≤ a.C) := by rw [← decide_not]; congr 1; exact propext ⟨fun h => by omega, fun h => by omega⟩
  have e2 : decide (a.C ≥ 2) = !decide (a.C < 2) := by rw [← decide_not]; congr 1; exact propext ⟨fun h => by omega, fun h => by omega⟩
  rw [e1, e2]
  simp only [Bool.not_and, Bool.not_not]
  rfl
theorem zat7 {l : List Asked} {p : za} (hl : l.length ≤ 9223372036854775807) (hp : ∀ a, a ∈ l → a.P.Set.length * 16 ≤ 140737488351232 ∧ a.P.Done.length * 8 ≤ 140737488351232) :
    zcj l p = some (!l.all (zya p), p) := by
  obtain ⟨r, h1, h2⟩ := zhp (F := fun s : (List Asked) × Int × Int × za => (zab s.1 s.2.1 s.2.2.1 s.2.2.2).run) l.length
    (fun i (_ : Unit) => (l, (l.length : Int), (i : Int), p)) (fun i _ => True) (fun i _ r => match r with | .inl k => (0 ≤ k.1 ∧ k.2 = p) ∧ (l.drop i).all (zya p) = false | .inr q => q = p ∧ (l.drop i).all (zya p) = true) (by
      intro t _
      refine ⟨.inr p, ?_, rfl, ?_⟩
      · simp only [zab]; rw [Tr.run_false (by simp), Tr.run_leaf]
      · rw [List.drop_length]; rfl) (by
      intro i t hi _
      have hs := zay (l := l) (k := i) hi default
      have hm := zfk (l := l) (k := i) hi default
      simp only [zab, Int.toNat_natCast]
      rw [Tr.run_true (by simpa using hi), Tr.run_guard ⟨by omega, by show (i : Int) < (l.length : Nat); omega⟩, Tr.run_bind (zazr (hp _ hm)), hs]
      simp only [List.all_cons]
      obtain ⟨b, hb⟩ : ∃ b, b = zya p (l.getD i default) := ⟨_, rfl⟩
      rw [← hb]
      cases b with
      | true =>
        refine .inl ⟨(), ?_, trivial, ?_⟩
        · rw [Tr.run_false (show (!true) = false from rfl), Tr.run_leaf, zx (by omega)]
        · intro r hr
          cases r with
          | inl x => exact ⟨hr.1, by rw [hr.2]; rfl⟩
          | inr x => rw [Bool.true_and]; exact hr
      | false =>
        refine .inr ⟨.inl (i, p), ?_, ⟨by simp only []; omega, rfl⟩, by rfl⟩
        rw [Tr.run_true (show (!false) = true from rfl), Tr.run_leaf]) 0 () (by omega) trivial
  have h1 : zei l l.length 0 p = some r := h1
  rw [zcj, zbg]
  cases r with
  | inl k =>
    simp only [List.drop_zero] at h2
    rw [Tr.run_bind (v := k) (by rw [zco, zam, Tr.run_inl h1, Tr.run_leaf]), Tr.run_leaf, h2.2, h2.1.2]
    simp [h2.1.1]
  | inr k =>
    simp only [List.drop_zero] at h2
    rw [Tr.run_bind (v := (-1, k)) (by rw [zco, zam, Tr.run_inr h1, Tr.run_leaf]), Tr.run_leaf, h2.2, h2.1]
    rfl
theorem zbaf (x y b c d e : Bool) : (((((x && y) || !b) || !c) || !d) || !e) = !(!(x && y) && b && c && d && e) := by
  cases x <;> cases y <;> cases b <;> cases c <;> cases d <;> cases e <;> rfl
theorem zac0 {p : za} (hf : FitPr 140737488351232 p) {c : Nat} (hc : c < 2) :
    (zdm p.Links c p).run = some (if okLk p c = true then .inl (p.Links, ((c + 1 : Nat) : Int), p) else .inr (.inl false)) := by
  simp only [zdm]
  have ht := hf.told c
  have hd := hf.done c
  rw [Tr.run_true (by simp; omega), Tr.run_guard ⟨by omega, by omega⟩, Tr.run_guard (fun _ => ⟨by rw [zxy (by omega)]; rfl, trivial⟩), Tr.run_guard (fun _ => ⟨by rw [z2e]; rfl, trivial⟩), zxy (by omega), z2e]
  simp only [Option.getD_some]
  have e : ((((((p.Links.On.get (c : Int)) && (p.Links.Gone.get (c : Int))) || (decide ((p.Links.Base.get (c : Int)) < 0))) || (decide ((p.Links.Base.get (c : Int)) > p.Height))) || (!zw 1 (-1) (p.Links.Told.get (c : Int)))) || (!decide (ze5 (ziq p.Links c)))) =
      !(!(p.Links.On.get (c : Int) && p.Links.Gone.get (c : Int)) && decide (0 ≤ p.Links.Base.get (c : Int)) && decide (p.Links.Base.get (c : Int) ≤ p.Height) && zw 1 (-1) (p.Links.Told.get (c : Int)) && decide (ze5 (ziq p.Links c))) := by
    have e1 : decide (p.Links.Base.get (c : Int) < 0) = !decide (0 ≤ p.Links.Base.get (c : Int)) := by rw [← decide_not]; congr 1; exact propext ⟨fun h => by omega, fun h => by omega⟩
    have e2 : decide (p.Links.Base.get (c : Int) > p.Height) = !decide (p.Links.Base.get (c : Int) ≤ p.Height) := by rw [← decide_not]; congr 1; exact propext ⟨fun h => by omega, fun h => by omega⟩
    rw [e1, e2]
    exact zbaf _ _ _ _ _ _
  rw [show ziq p.Links (c : Int) = (⟨p.Links.Said.get (c : Int), p.Links.Due.get (c : Int), p.Links.Got.get (c : Int), p.Links.Closed.get (c : Int)⟩ : zeg) from rfl] at e
  rw [e]
  unfold okLk
  rw [show ziq p.Links (c : Int) = (⟨p.Links.Said.get (c : Int), p.Links.Due.get (c : Int), p.Links.Got.get (c : Int), p.Links.Closed.get (c : Int)⟩ : zeg) from rfl]
  generalize (!(p.Links.On.get (c : Int) && p.Links.Gone.get (c : Int)) && decide (0 ≤ p.Links.Base.get (c : Int)) && decide (p.Links.Base.get (c : Int) ≤ p.Height) && zw 1 (-1) (p.Links.Told.get (c : Int)) && decide (ze5 (⟨p.Links.Said.get (c : Int), p.Links.Due.get (c : Int), p.Links.Got.get (c : Int), p.Links.Closed.get (c : Int)⟩ : zeg))) = b
  cases b with
  | false => rw [Tr.run_true (show (!false) = true from rfl), Tr.run_leaf]; rfl
  | true =>
    rw [Tr.run_false (show (!true) = false from rfl)]
    obtain ⟨r, h1, h2⟩ := zal4 (L := p.Links) (c := (c : Int)) (p := p) (k := ⟨p.Links.On.get c, p.Links.Gone.get c, p.Links.Base.get c, p.Links.Told.get c, p.Links.Fresh.get c, p.Links.Done.get c, ⟨p.Links.Said.get c, p.Links.Due.get c, p.Links.Got.get c, p.Links.Closed.get c⟩, ⟨p.Links.SHeight.get c, p.Links.STime.get c, p.Links.SSaid.get c, p.Links.SGot.get c⟩⟩)
      (l := p.Links.Done.get c) rfl (by omega)
    cases r with
    | inl b => rw [Tr.run_inl h1, Tr.run_leaf, h2.1, h2.2]; rfl
    | inr x => rw [Tr.run_inr h1, Tr.run_leaf, h2.1, h2.2, zx (by omega)]; rfl
theorem zj7 {p : za} (hf : FitPr 140737488351232 p) : zbt p = some (zad p) := by
  have hs := hf.set
  have hq := hf.queue
  have loop : zj0 p.Links 0 p = some (if okLk p 0 = true then (if okLk p 1 = true then .inr p else .inl false) else .inl false) := by
    rw [zj0]
    have t0 := zac0 hf (c := 0) (by omega)
    have t1 := zac0 hf (c := 1) (by omega)
    simp only [Int.ofNat_zero, Nat.zero_add, Int.ofNat_one] at t0 t1
    by_cases h0 : okLk p 0 = true
    · rw [if_pos h0] at t0 ⊢
      rw [zde (s' := (p.Links, ((1 : Nat) : Int), p)) t0]
      by_cases h1 : okLk p 1 = true
      · rw [if_pos h1] at t1 ⊢
        rw [zde (s' := (p.Links, ((2 : Nat) : Int), p)) t1, ze4 (r := .inr p) (by
          show (zdm p.Links 2 p).run = _
          simp only [zdm]
          rw [Tr.run_false (by simp), Tr.run_leaf])]
      · rw [if_neg h1] at t1 ⊢
        rw [ze4 (r := .inl false) t1]
    · rw [if_neg h0] at t0 ⊢
      rw [ze4 (r := .inl false) t0]
  rw [zbt, zk6, Tr.run_bind (zxe p.Stake), Tr.run_guard (fun _ => ⟨by rw [zxy (by omega)]; rfl, trivial⟩), zxy (by omega)]
  simp only [Option.getD_some]
  have e : ((((((!decide (GoodS p.Stake)) || (decide (p.Height < 0))) || (decide (p.Height ≥ 1099511627776))) || (decide (p.Time < 0))) || (decide (p.Time > 1099511627776))) || (!zw 1 (-1) p.Set)) = !(decide (GoodS p.Stake) && decide (z3m p) && zw 1 (-1) p.Set) := by
    rw [Bool.eq_iff_iff]
    simp only [Bool.or_eq_true, Bool.not_eq_true', decide_eq_false_iff_not, decide_eq_true_eq, Bool.and_eq_false_iff]
    unfold z3m
    constructor
    · rintro (((((h | h) | h) | h) | h) | h)
      · exact .inl (.inl h)
      · exact .inl (.inr (by omega))
      · exact .inl (.inr (by omega))
      · exact .inl (.inr (by omega))
      · exact .inl (.inr (by omega))
      · exact .inr h
    · rintro ((h | h) | h)
      · exact .inl (.inl (.inl (.inl (.inl h))))
      · rcases (show p.Height < 0 ∨ p.Height ≥ 1099511627776 ∨ p.Time < 0 ∨ p.Time > 1099511627776 by omega) with k | k | k | k
        · exact .inl (.inl (.inl (.inl (.inr k))))
        · exact .inl (.inl (.inl (.inr k)))
        · exact .inl (.inl (.inr k))
        · exact .inl (.inr k)
      · exact .inr h
  rw [e]
  unfold zad
  generalize (decide (GoodS p.Stake) && decide (z3m p) && zw 1 (-1) p.Set) = b
  cases b with
  | false => rw [Tr.run_true (show (!false) = true from rfl), Tr.run_leaf]; rfl
  | true =>
    rw [Tr.run_false (show (!true) = false from rfl)]
    by_cases h0 : okLk p 0 = true
    · rw [if_pos h0] at loop
      by_cases h1 : okLk p 1 = true
      · rw [if_pos h1] at loop
        rw [Tr.run_inr loop, Tr.run_bind (zat7 (by omega) hf.ps), Tr.run_leaf, h0, h1]
        simp
      · rw [if_neg h1] at loop
        rw [Tr.run_inl loop, Tr.run_leaf, h0, Bool.eq_false_iff.2 h1]
        rfl
    · rw [if_neg h0] at loop
      rw [Tr.run_inl loop, Tr.run_leaf, Bool.eq_false_iff.2 h0]
      rfl
end Go.Proofs.YtmakmlnfbdablaaGreat.Ab
namespace Go.Proofs.YtmakmlnfbdablaaGreat.Ab
open Go Go.RowKit
set_option linter.unusedVariables false
set_option linter.unusedSimpArgs false
structure zbag (p : za) : Prop where
  waits : p.Stake.Waits.length ≤ 9223372036854775807
  set : p.Set.length ≤ 9223372036854775807
  told : ∀ c, (p.Links.Told.get c).length ≤ 9223372036854775807
  done : ∀ c, (p.Links.Done.get c).length ≤ 9223372036854775807
  said : ∀ c, (p.Links.Said.get c).length ≤ 9223372036854775807
  due : ∀ c, (p.Links.Due.get c).length ≤ 9223372036854775807
  queue : p.Queue.length ≤ 9223372036854775807
  ps : ∀ a, a ∈ p.Queue → a.P.Set.length ≤ 9223372036854775807 ∧ a.P.Done.length ≤ 9223372036854775807
theorem FitPr.len {R : Nat} {p : za} (h : FitPr R p) (hR : R ≤ 9223372036854775807) : zbag p :=
  ⟨by have := h.waits; omega, by have := h.set; omega, fun c => by have := h.told c; omega, fun c => by have := h.done c; omega, fun c => by have := h.said c; omega, fun c => by have := h.due c; omega, by have := h.queue; omega,
    fun a ha => by have := h.ps a ha; omega⟩
end Go.Proofs.YtmakmlnfbdablaaGreat.Ab
namespace Go.Proofs.YtmakmlnfbdablaaGreat.Ab
open Go Go.RowKit
set_option linter.unusedVariables false
set_option linter.unusedSimpArgs false
theorem z1v {α : Type} {t e : Tr α} : (Tr.ite (!true) t e).run = e.run := Tr.run_false (show (!true) = false from rfl)
theorem z1w {α : Type} {t e : Tr α} : (Tr.ite (!false) t e).run = t.run := Tr.run_true (show (!false) = true from rfl)
def newM (x t : Int) : Meter := ⟨if x < 5 then 1 else x / 5, IntKind.i64.wrap (t + 10)⟩
def zaio (m : Meter) (x t : Int) : Meter := if m.Next ≤ t then newM x t else m
def zae8 (m : Meter) (n : Int) : Meter × Bool := if m.Left ≤ 0 then (m, false) else (⟨IntKind.i64.wrap (m.Left - n), m.Next⟩, true)
theorem zal5 {x t : Int} (hx : i64 x) : zq6 x t = some (newM x t) := by
  have h : zkn x = some (if x < 5 then 1 else x / 5) := by
    rw [zkn, zhy, Tr.run_guard (by decide), Tr.run_leaf]
    unfold i64 at hx
    by_cases h5 : x < 5
    · have : Int.tdiv x 5 < 1 := by
        by_cases h0 : 0 ≤ x
        · rw [Int.tdiv_eq_ediv_of_nonneg h0]; omega
        · have : Int.tdiv x 5 ≤ 0 := by
            have h1 : Int.tdiv (-x) 5 = - Int.tdiv x 5 := Int.neg_tdiv x 5
            rw [Int.tdiv_eq_ediv_of_nonneg (by omega)] at h1
            omega
          omega
      have hl : -9223372036854775808 ≤ Int.tdiv x 5 := by
        by_cases h0 : 0 ≤ x
        · rw [Int.tdiv_eq_ediv_of_nonneg h0]; omega
        · have h1 : Int.tdiv (-x) 5 = - Int.tdiv x 5 := Int.neg_tdiv x 5
          rw [Int.tdiv_eq_ediv_of_nonneg (by omega)] at h1
          omega
      rw [zn (by omega) (by omega), if_neg (by omega), if_pos h5]
    · rw [Int.tdiv_eq_ediv_of_nonneg (by omega), zn (by omega) (by omega), if_neg h5]
      split
      · rfl
      · congr 1; omega
  rw [zq6, zt0, Tr.run_bind h, Tr.run_leaf]; rfl
theorem zag4 {m : Meter} {x t : Int} (hx : i64 x) : zo7 m x t = some (zaio m x t) := by
  rw [zo7, zq7]
  unfold zaio
  by_cases h : m.Next ≤ t
  · rw [Tr.run_true (by simpa using h), Tr.run_bind (zal5 hx), Tr.run_leaf, if_pos h]
  · rw [Tr.run_false (by simpa using h), Tr.run_leaf, if_neg h]
theorem zag5 {m : Meter} {n : Int} : zhz m n = some (zae8 m n) := by
  rw [zhz, zq8]
  unfold zae8
  by_cases h : m.Left ≤ 0
  · rw [Tr.run_true (by simpa using h), Tr.run_leaf, if_pos h]
  · rw [Tr.run_false (by simpa using h), Tr.run_leaf, if_neg h]
def zac1 : za := ⟨0, 0, newS, [], default, newM 0 0, []⟩
theorem zaip : zqa = some zac1 := by
  rw [zqa, zmz, Tr.run_bind zae0, Tr.run_bind (zal5 (by unfold i64; omega)), Tr.run_leaf]; rfl
def zdq (p : za) (d v n : Int) : za × Int :=
  if zad p = true then (if (zbr p.Stake d v n).2 ≠ 0 then (p, (zbr p.Stake d v n).2) else ({ p with Stake := (zbr p.Stake d v n).1 }, 0)) else (p, 2)
theorem z6m {p : za} (hf : FitPr 140737488351232 p) {d v n : Int} (hn : n ≤ 9223372036854775807) : zis p d v n = some (zdq p d v n) := by
  rw [zis, zgf, Tr.run_bind (zj7 hf)]
  unfold zdq
  by_cases hg : zad p = true
  · rw [hg, z1v, if_pos rfl, Tr.run_bind (zaev hn)]
    by_cases h0 : (zbr p.Stake d v n).2 ≠ 0
    · rw [Tr.run_true (by simpa using h0), Tr.run_leaf, if_pos h0]
    · rw [Tr.run_false (by simpa using h0), Tr.run_leaf, if_neg h0]
  · rw [Bool.eq_false_iff.2 hg, z1w, Tr.run_leaf]; rfl
def z6n (p : za) (now : Int) : Wait := ⟨0, 0, 0, 0, p.Height + 1, now + 20, if p.Links.On.x0 = true then p.Height + 1 else 0, if p.Links.On.x1 = true then p.Height + 1 else 0⟩
def zac2 (L : Links) : Links := { L with Fresh := ⟨L.Fresh.x0 || L.On.x0, L.Fresh.x1 || L.On.x1⟩ }
def zdg (p : za) (d v k now : Int) : za × Int :=
  if zad p = true ∧ 0 ≤ now ∧ now ≤ 1099511627776 then
    (if (zau p.Stake d v k (z6n p now)).2 ≠ 0 then (p, (zau p.Stake d v k (z6n p now)).2) else ({ p with Stake := (zau p.Stake d v k (z6n p now)).1, Links := zac2 p.Links }, 0))
  else (p, 2)
theorem zj8 {p : za} (h : zad p = true) : GoodS p.Stake ∧ z3m p ∧ zw 1 (-1) p.Set = true ∧ okLk p 0 = true ∧ okLk p 1 = true ∧ p.Queue.all (zya p) = true := by
  unfold zad at h
  simp only [Bool.and_eq_true, decide_eq_true_eq] at h
  exact ⟨h.1.1.1.1.1, h.1.1.1.1.2, h.1.1.1.2, h.1.1.2, h.1.2, h.2⟩
theorem z8w {p : za} {now : Int} : (((!zad p) || (decide (now < 0))) || (decide (now > 1099511627776))) = !decide (zad p = true ∧ 0 ≤ now ∧ now ≤ 1099511627776) := by
  rw [Bool.eq_iff_iff]
  simp only [Bool.or_eq_true, Bool.not_eq_true', decide_eq_true_eq, decide_eq_false_iff_not]
  cases zad p <;> simp <;> omega
theorem z2n {p : za} (hf : FitPr 140737488351232 p) {d v k now : Int} (hk : k ≤ 9223372036854775807) : zbm p d v k now = some (zdg p d v k now) := by
  rw [zbm, zey, Tr.run_bind (zj7 hf)]
  unfold zdg
  by_cases hg : zad p = true ∧ 0 ≤ now ∧ now ≤ 1099511627776
  · rw [if_pos hg]
    obtain ⟨g1, g2, -⟩ := zj8 hg.1
    unfold z3m at g2
    have turn : ∀ (c : Nat), c < 2 → ∀ (q : za) (w : Wait), (zbb d v k c p q w).run = some (.inl (d, v, k, ((c + 1 : Nat) : Int), p, q, if p.Links.On.get c = true then { w with h0 := if (c : Int) = 0 then p.Height + 1 else w.h0, h1 := if (c : Int) = 1 then p.Height + 1 else w.h1 } else w)) := by
      intro c hc q w
      simp only [zbb]
      rw [Tr.run_true (by simp; omega), Tr.run_guard ⟨by omega, by omega⟩]
      by_cases ho : p.Links.On.get c = true
      · rw [Tr.run_true ho, Tr.run_guard ⟨by omega, by omega⟩, Tr.run_leaf, zx (by omega), if_pos ho, zn (by omega) (by omega)]
      · rw [Tr.run_false (Bool.eq_false_iff.2 ho), Tr.run_leaf, zx (by omega), if_neg ho]
    have hw : zfb d v k 0 p default ⟨0, 0, 0, 0, p.Height + 1, now + 20, 0, 0⟩ = some (d, v, k, p, default, z6n p now) := by
      rw [zfb, zde (s' := (d, v, k, ((1 : Nat) : Int), p, _, _)) (turn 0 (by omega) _ _), zde (s' := (d, v, k, ((2 : Nat) : Int), p, _, _)) (turn 1 (by omega) _ _), ze4 (by
        show (zbb d v k 2 p _ _).run = _
        simp only [zbb]
        rw [Tr.run_false (by simp), Tr.run_leaf])]
      have e0 : p.Links.On.get ((0 : Nat) : Int) = p.Links.On.x0 := rfl
      have e1 : p.Links.On.get ((1 : Nat) : Int) = p.Links.On.x1 := rfl
      rw [e0, e1]
      unfold z6n
      cases p.Links.On.x0 <;> cases p.Links.On.x1 <;> rfl
    rw [Tr.run_false (by rw [z8w, decide_eq_true hg]; rfl), zn (x := p.Height + 1) (by omega) (by omega), zn (x := now + 20) (by omega) (by omega), Tr.run_bind hw]
    simp only []
    rw [Tr.run_bind (zaau hk)]
    by_cases h0 : (zau p.Stake d v k (z6n p now)).2 ≠ 0
    · rw [Tr.run_true (by simpa using h0), Tr.run_leaf, if_pos h0]
    · rw [Tr.run_false (by simpa using h0), if_neg h0]
      have turn2 : ∀ (c : Nat), c < 2 → ∀ (p q : za), (zbc c p q).run = some (.inl (((c + 1 : Nat) : Int), { p with Links := { p.Links with Fresh := p.Links.Fresh.set c (p.Links.Fresh.get c || p.Links.On.get c) } }, q)) := by
        intro c hc p q
        simp only [zbc]
        rw [Tr.run_true (by simp; omega), Tr.run_guard ⟨by omega, by omega⟩, Tr.run_guard (fun _ => ⟨⟨by omega, by omega⟩, trivial⟩), Tr.run_guard ⟨by omega, by omega⟩, Tr.run_leaf, zx (by omega)]
      rw [Tr.run_bind (v := ({ p with Stake := (zau p.Stake d v k (z6n p now)).1, Links := zac2 p.Links }, default)) (by
        rw [zjc, zde (s' := (((1 : Nat) : Int), _, _)) (turn2 0 (by omega) _ _), zde (s' := (((2 : Nat) : Int), _, _)) (turn2 1 (by omega) _ _), ze4 (by
          show (zbc 2 _ _).run = _
          simp only [zbc]
          rw [Tr.run_false (by simp), Tr.run_leaf])]
        rfl), Tr.run_leaf]
  · rw [if_neg hg, Tr.run_true (by rw [z8w, decide_eq_false hg]; rfl), Tr.run_leaf]
end Go.Proofs.YtmakmlnfbdablaaGreat.Ab
namespace Go.Proofs.YtmakmlnfbdablaaGreat.Ab
open Go Go.RowKit
set_option linter.unusedVariables false
set_option linter.unusedSimpArgs false
theorem z1x : ∀ {l : List Int} {p : Int}, zap p l = true → (∀ q, q ∈ l → p < q ∧ q ≤ 5) ∧ l.Pairwise (· < ·)
  | [], p, h => ⟨by simp, .nil⟩
  | q :: l, p, h => by
    simp only [zap, Bool.and_eq_true, decide_eq_true_eq] at h
    obtain ⟨h1, h2⟩ := z1x h.2
    refine ⟨fun x hx => ?_, List.pairwise_cons.2 ⟨fun x hx => (h1 x hx).1, h2⟩⟩
    rcases List.mem_cons.1 hx with rfl | hx
    · exact h.1
    · have := h1 x hx; omega
theorem zac3 : ∀ {l : List Int} {p : Int}, (∀ q, q ∈ l → p < q ∧ q ≤ 5) → l.Pairwise (· < ·) → zap p l = true
  | [], p, _, _ => rfl
  | q :: l, p, h1, h2 => by
    have hq := h1 q (List.mem_cons_self ..)
    rw [List.pairwise_cons] at h2
    simp only [zap, Bool.and_eq_true, decide_eq_true_eq]
    exact ⟨hq, zac3 (fun x hx => ⟨h2.1 x hx, (h1 x (List.mem_cons_of_mem _ hx)).2⟩) h2.2⟩
theorem zae9 : ∀ {l m : List Int}, l.Pairwise (· < ·) → m.Pairwise (· < ·) → (∀ p, p ∈ l ↔ p ∈ m) → l = m
  | [], [], _, _, _ => rfl
  | [], b :: m, _, _, h => by have := (h b).2 (List.mem_cons_self ..); cases this
  | a :: l, [], _, _, h => by have := (h a).1 (List.mem_cons_self ..); cases this
  | a :: l, b :: m, hl, hm, h => by
    rw [List.pairwise_cons] at hl hm
    have hab : a = b := by
      rcases List.mem_cons.1 ((h a).1 (List.mem_cons_self ..)) with h1 | h1
      · exact h1
      · rcases List.mem_cons.1 ((h b).2 (List.mem_cons_self ..)) with h2 | h2
        · exact h2.symm
        · have k1 := hm.1 a h1
          have k2 := hl.1 b h2
          omega
    subst hab
    congr 1
    refine zae9 hl.2 hm.2 fun p => ⟨fun hp => ?_, fun hp => ?_⟩
    · rcases List.mem_cons.1 ((h p).1 (List.mem_cons_of_mem _ hp)) with h1 | h1
      · have := hl.1 p hp; omega
      · exact h1
    · rcases List.mem_cons.1 ((h p).2 (List.mem_cons_of_mem _ hp)) with h1 | h1
      · have := hm.1 p hp; omega
      · exact h1
theorem zat8 (a b : Int) : zqe a b = some (decide (a < b)) := by
  have h : ∀ x, zgr x = some false := fun x => by rw [zgr, zk9, Tr.run_leaf]; simp
  rw [zqe, zm1, Tr.run_bind (h a), Tr.run_guard (fun e => by cases e), Tr.run_leaf]
  simp
theorem zag6 (x : Int) : zbw x = some false := by rw [zbw, zhb, Tr.run_leaf]; simp
theorem zafa {l : List Int} (h : l.Pairwise (· < ·)) {x y : Nat} (hxy : x < y) (hy : y < l.length) : l.getD x 0 < l.getD y 0 := by
  have := List.pairwise_iff_getElem.1 h x y (by omega) hy hxy
  rw [List.getD_eq_getElem?_getD, List.getD_eq_getElem?_getD, List.getElem?_eq_getElem hy, List.getElem?_eq_getElem (show x < l.length by omega)]
  exact this
def zac4 (l : List Int) (v k : Int) : Prop := 0 ≤ k ∧ k ≤ l.length ∧ (∀ x : Nat, (x : Int) < k → l.getD x 0 < v) ∧ (∀ x : Nat, k ≤ x → x < l.length → v ≤ l.getD x 0)
theorem zal6 {l : List Int} (hs : l.Pairwise (· < ·)) (hl : l.length ≤ 1000) (v : Int) :
    ∃ k, zgs l v l.length 0 l.length = some (l, v, (l.length : Int), k) ∧ zac4 l v k := by
  have := zts (F := fun s : (List Int) × Int × Int × Int × Int => (zbx s.1 s.2.1 s.2.2.1 s.2.2.2.1 s.2.2.2.2).run)
    (fun s => s.1 = l ∧ s.2.1 = v ∧ s.2.2.1 = l.length ∧ (0 ≤ s.2.2.2.1 ∧ s.2.2.2.1 ≤ s.2.2.2.2 ∧ s.2.2.2.2 ≤ l.length) ∧ (∀ x : Nat, (x : Int) < s.2.2.2.1 → l.getD x 0 < v) ∧ (∀ x : Nat, s.2.2.2.2 ≤ x → x < l.length → v ≤ l.getD x 0))
    (fun s => (s.2.2.2.2 - s.2.2.2.1).toNat) (fun s r => ∃ k, r = (l, v, (l.length : Int), k) ∧ zac4 l v k) ?_ (l, v, (l.length : Int), 0, (l.length : Int)) ⟨rfl, rfl, rfl, ⟨by simp, by simp, by simp⟩, by intro x hx; simp only [] at hx; omega, by intro x hx h2; simp only [] at hx; omega⟩
  · obtain ⟨r, h1, k, rfl, h3⟩ := this
    exact ⟨k, h1, h3⟩
  · rintro ⟨x0, x1, x2, i, j⟩ ⟨h1, h2, h3, ⟨h4, h5, h6⟩, h7, h8⟩
    simp only at h1 h2 h3 h4 h5 h6 h7 h8
    rw [h1, h2, h3] at *
    simp only [zbx]
    by_cases hc : i < j
    · have hm : IntKind.i64.wrap (Int.fdiv (IntKind.u64.wrap (IntKind.i64.wrap (i + j))) (2 ^ 1)) = (i + j) / 2 := by
        rw [zn (x := i + j) (by omega) (by omega), zak4 (by omega) (by omega), Int.fdiv_eq_ediv_of_nonneg _ (by decide), zn (by omega) (by omega)]
        rfl
      rw [hm]
      generalize hmm : (i + j) / 2 = m
      have m1 : i ≤ m := by omega
      have m2 : m < j := by omega
      rw [Tr.run_true (by simpa using hc), Tr.run_guard (by decide), Tr.run_guard ⟨by omega, by show m < (l.length : Nat); omega⟩, Tr.run_bind (zat8 _ _)]
      by_cases hlt : l.getD m.toNat 0 < v
      · refine .inl ⟨(l, v, (l.length : Int), m + 1, j), by rw [Tr.run_true (by simpa using hlt), Tr.run_leaf, zn (by omega) (by omega)], ⟨rfl, rfl, rfl, ⟨by simp only []; omega, by simp only []; omega, by simp only []; omega⟩, ?_, h8⟩, by simp only []; omega, fun r hr => hr⟩
        intro x hx
        simp only [] at hx
        by_cases hxm : x = m.toNat
        · rw [hxm]; exact hlt
        · have := zafa hs (x := x) (y := m.toNat) (by omega) (by omega)
          omega
      · refine .inl ⟨(l, v, (l.length : Int), i, m), by rw [Tr.run_false (by simpa using hlt), Tr.run_leaf], ⟨rfl, rfl, rfl, ⟨by simp only []; omega, by simp only []; omega, by simp only []; omega⟩, h7, ?_⟩, by simp only []; omega, fun r hr => hr⟩
        intro x hx hx2
        simp only [] at hx
        by_cases hxm : x = m.toNat
        · rw [hxm]; omega
        · have := zafa hs (x := m.toNat) (y := x) (by omega) hx2
          omega
    · refine .inr ⟨(l, v, (l.length : Int), i), by rw [Tr.run_false (by simpa using hc), Tr.run_leaf], i, rfl, h4, by omega, h7, fun x hx => h8 x (by omega)⟩
theorem zal7 {l : List Int} (hs : l.Pairwise (· < ·)) (hl : l.length ≤ 1000) (v : Int) : ∃ k, zt l v = some (k, decide (v ∈ l)) ∧ zac4 l v k := by
  obtain ⟨k, h1, h2⟩ := zal6 hs hl v
  refine ⟨k, ?_, h2⟩
  obtain ⟨k0, k1, k2, k3⟩ := h2
  have hin : decide (k < (l.length : Int)) = true → (0 : Int) ≤ k ∧ k < ((Sl.len (.ints l) : Nat) : Int) := fun h => ⟨k0, by simpa [Sl.len] using h⟩
  rw [zt, zcv, Tr.run_bind h1]
  simp only []
  rw [Tr.run_guard (fun h => ⟨hin h, trivial⟩), Tr.run_guard (fun _ h => ⟨hin h, trivial⟩), Tr.run_guard (fun _ _ => ⟨by rw [zag6]; rfl, trivial⟩), Tr.run_guard (fun _ _ _ => ⟨by rw [zag6]; rfl, trivial⟩), Tr.run_leaf, zag6, zag6]
  simp only [Option.getD_some, Bool.and_false, Bool.or_false]
  congr 2
  rw [Bool.eq_iff_iff]
  simp only [Bool.and_eq_true, decide_eq_true_eq, beq_iff_eq]
  constructor
  · rintro ⟨hk, he⟩
    rw [← he]
    exact zfk (by omega) 0
  · intro hv
    obtain ⟨x, hx, he⟩ := List.getElem_of_mem hv
    have hg : l.getD x 0 = v := by rw [List.getD_eq_getElem?_getD, List.getElem?_eq_getElem hx]; exact he
    have hkx : k ≤ x := by
      rcases Int.lt_or_le (x : Int) k with h | h
      · have := k2 x h; omega
      · exact h
    refine ⟨by omega, ?_⟩
    have h3 := k3 k.toNat (by omega) (by omega)
    by_cases hxk : x = k.toNat
    · rw [← hxk]; exact hg
    · have := zafa hs (x := k.toNat) (y := x) (by omega) hx
      omega
def insD (l : List Int) (v : Int) : List Int := ((List.range 6).map (fun (u : Nat) => (u : Int))).filter (fun u => u == v || decide (u ∈ l))
theorem range_pw : ((List.range 6).map (fun (u : Nat) => (u : Int))).Pairwise (· < ·) := by decide
theorem zafb (l : List Int) (v : Int) : (insD l v).Pairwise (· < ·) := range_pw.sublist List.filter_sublist
theorem zaiq {u : Int} : u ∈ (List.range 6).map (fun (u : Nat) => (u : Int)) ↔ 0 ≤ u ∧ u ≤ 5 := by
  rw [List.mem_map]
  constructor
  · rintro ⟨x, hx, rfl⟩; rw [List.mem_range] at hx; omega
  · intro h; exact ⟨u.toNat, by rw [List.mem_range]; omega, by omega⟩
theorem mem_insD {l : List Int} {v u : Int} : u ∈ insD l v ↔ (0 ≤ u ∧ u ≤ 5) ∧ (u = v ∨ u ∈ l) := by
  unfold insD; rw [List.mem_filter, zaiq]; simp
theorem zal9 (l : List Int) (v : Int) : zap (-1) (insD l v) = true := zac3 (fun q hq => by have := (mem_insD.1 hq).1; omega) (zafb l v)
theorem zat9 {l : List Int} {v : Int} (h : zap (-1) l = true) (hv : v ∈ l) : insD l v = l := by
  obtain ⟨h1, h2⟩ := z1x h
  refine zae9 (zafb l v) h2 fun u => ?_
  rw [mem_insD]
  constructor
  · rintro ⟨_, rfl | h⟩ <;> assumption
  · intro hu; have := h1 u hu; exact ⟨by omega, .inr hu⟩
theorem zapk {l : List Int} {v k : Int} (h : zap (-1) l = true) (hv : v ∉ l) (hv5 : 0 ≤ v ∧ v ≤ 5) (hk : zac4 l v k) : l.take k.toNat ++ [v] ++ l.drop k.toNat = insD l v := by
  obtain ⟨h1, h2⟩ := z1x h
  obtain ⟨k0, k1, k2, k3⟩ := hk
  have htake : ∀ x, x ∈ l.take k.toNat → x < v := by
    intro x hx
    obtain ⟨i, hi, rfl⟩ := List.getElem_of_mem hx
    rw [List.length_take] at hi
    have := k2 i (by omega)
    rw [List.getD_eq_getElem?_getD, List.getElem?_eq_getElem (by omega)] at this
    rw [List.getElem_take]; exact this
  have hdrop : ∀ x, x ∈ l.drop k.toNat → v < x := by
    intro x hx
    have hm : x ∈ l := List.mem_of_mem_drop hx
    obtain ⟨i, hi, rfl⟩ := List.getElem_of_mem hx
    rw [List.length_drop] at hi
    have := k3 (k.toNat + i) (by omega) (by omega)
    rw [List.getD_eq_getElem?_getD, List.getElem?_eq_getElem (by omega)] at this
    rw [List.getElem_drop] at hm ⊢
    have hne : l[k.toNat + i] ≠ v := fun e => hv (e ▸ hm)
    have h3 : v ≤ l[k.toNat + i] := this
    omega
  refine zae9 ?_ (zafb l v) fun u => ?_
  · rw [List.append_assoc, List.pairwise_append]
    refine ⟨h2.sublist (List.take_sublist _ _), ?_, ?_⟩
    · rw [List.singleton_append, List.pairwise_cons]
      exact ⟨hdrop, h2.sublist (List.drop_sublist _ _)⟩
    · intro a ha b hb
      rw [List.singleton_append] at hb
      rcases List.mem_cons.1 hb with rfl | hb
      · exact htake a ha
      · have := htake a ha; have := hdrop b hb; omega
  · rw [mem_insD, List.append_assoc, List.mem_append, List.singleton_append, List.mem_cons]
    constructor
    · rintro (hu | rfl | hu)
      · have hm := List.mem_of_mem_take hu
        have := h1 u hm
        exact ⟨by omega, .inr hm⟩
      · exact ⟨hv5, .inl rfl⟩
      · have hm := List.mem_of_mem_drop hu
        have := h1 u hm
        exact ⟨by omega, .inr hm⟩
    · rintro ⟨_, rfl | hu⟩
      · exact .inr (.inl rfl)
      · rw [← List.take_append_drop k.toNat l, List.mem_append] at hu
        exact hu.imp id .inr
end Go.Proofs.YtmakmlnfbdablaaGreat.Ab
namespace Go.Proofs.YtmakmlnfbdablaaGreat.Ab
open Go Go.RowKit
set_option linter.unusedVariables false
set_option linter.unusedSimpArgs false
def z2o (p : za) (v : Int) : Int := if (IntKind.i64.wrap (Int.tdiv (p.Stake.Validators.Tokens.get v) 100)) > 1 then (IntKind.i64.wrap (Int.tdiv (p.Stake.Validators.Tokens.get v) 100)) else 1
def zama (p : za) (c v : Int) : za := { p with Links := { p.Links with Done := p.Links.Done.set c (insD (p.Links.Done.get c) v) } }
def zbah (p : za) (a : Asked) : Int := if (p.Links.Base.get a.C) > a.P.Id then (p.Links.Base.get a.C) else a.P.Id
def z6o (p : za) (a : Asked) : za × Bool :=
  if a.P.Kind = 2 then ({ p with Stake := zrv p.Stake a.C a.P.Id }, true)
  else if a.P.Kind = 4 then (if p.Stake.Validators.Dead.get a.P.V = true then (p, true) else ({ p with Stake := (zbs (zgt p.Stake a.P.V (zbah p a) 50).1 a.P.V 2).1 }, true))
  else if p.Stake.Validators.Jailed.get a.P.V = true then (zama p a.C a.P.V, true)
  else if (zae8 p.Meter (z2o p a.P.V)).2 = true then (zama { p with Stake := (zbs p.Stake a.P.V 0).1, Meter := (zae8 p.Meter (z2o p a.P.V)).1 } a.C a.P.V, true)
  else (p, false)
structure zamb (p : za) (a : Asked) : Prop where
  v : 0 ≤ a.P.V ∧ a.P.V ≤ 5
  c : 0 ≤ a.C ∧ a.C < 2
  k : a.P.Kind = 2 ∨ a.P.Kind = 3 ∨ a.P.Kind = 4
  w : p.Stake.Waits.length * 64 ≤ 140737488351232
  d : zap (-1) (p.Links.Done.get a.C) = true
theorem zqn {α : Type} (a : A2 α) {c : Int} (hc : 0 ≤ c ∧ c < 2) : a.set c (a.get c) = a := by
  rcases (show c = 0 ∨ c = 1 by omega) with rfl | rfl <;> rfl
theorem z4k {l : List Int} (h : zap (-1) l = true) : l.length ≤ 6 := by
  have := ztc h (by omega); omega
theorem zamc {p : za} {a : Asked} (hf : zamb p a) (hv : a.P.V ∈ p.Links.Done.get a.C) : zama p a.C a.P.V = p := by
  unfold zama
  rw [zat9 hf.d hv, zqn _ hf.c]
theorem zamd {l : List Int} {k v : Int} (hl : l.length ≤ 6) (hk : zac4 l v k) : zca l k [v] = some (l.take k.toNat ++ [v] ++ l.drop k.toNat) := by
  unfold zca insP
  rw [if_pos ⟨hk.1, hk.2.1, by simp, by simp; omega⟩]
theorem zaua {p : za} {a : Asked} (hf : zamb p a) : zn8 a p = some ((z6o p a).2, (z6o p a).1) := by
  obtain ⟨hv, hc, hk, hw, hd⟩ := hf
  have hl := z4k hd
  obtain ⟨pk, hs, hpl⟩ := zal7 (z1x hd).2 (by omega) a.P.V
  have hcl := zacg (l := p.Links.Done.get a.C) (by omega)
  have hin := zamd hl hpl
  have hmem : (!decide (a.P.V ∈ p.Links.Done.get a.C)) = true → (p.Links.Done.get a.C).take pk.toNat ++ [a.P.V] ++ (p.Links.Done.get a.C).drop pk.toNat = insD (p.Links.Done.get a.C) a.P.V := by
    intro h
    exact zapk hd (by simpa using h) hv hpl
  rw [zn8, zla, Tr.run_guard ⟨by omega, by omega⟩, Tr.run_guard hc]
  unfold z6o
  by_cases k2 : a.P.Kind = 2
  · rw [Tr.run_true (by simpa using k2), Tr.run_guard (by rw [z2j hw]; rfl), Tr.run_leaf, z2j hw, if_pos k2]; rfl
  · rw [Tr.run_false (by simpa using k2), if_neg k2]
    by_cases k4 : a.P.Kind = 4
    · rw [if_pos k4, Tr.run_false (by rw [k4]; decide), Tr.run_true (by simpa using k4)]
      by_cases hdd : p.Stake.Validators.Dead.get a.P.V = true
      · rw [if_pos hdd, hdd, z1v, Tr.run_leaf]
      · rw [if_neg hdd, Bool.eq_false_iff.2 hdd, z1w, Tr.run_guard (by rw [zaay]; rfl), zaay]
        simp only [Option.getD_some]
        rw [Tr.run_guard (by rw [zaex]; rfl), Tr.run_leaf, zaex]; rfl
    · have k3 : a.P.Kind = 3 := by omega
      rw [if_neg k4, Tr.run_true (by simpa using k3)]
      by_cases hj : p.Stake.Validators.Jailed.get a.P.V = true
      · rw [if_pos hj, hj, z1v, Tr.run_guard (by rw [hs]; rfl), hs]
        simp only [Option.getD_some]
        by_cases hm : a.P.V ∈ p.Links.Done.get a.C
        · rw [decide_eq_true hm, z1v, Tr.run_leaf, zamc ⟨hv, hc, hk, hw, hd⟩ hm]
        · rw [decide_eq_false hm, z1w, Tr.run_guard (by rw [hcl]; rfl), hcl]
          simp only [Option.getD_some]
          rw [Tr.run_guard (by rw [hin]; rfl), Tr.run_leaf, hin, Option.getD_some, hmem (by simpa using hm)]
          rfl
      · rw [if_neg hj, Bool.eq_false_iff.2 hj, z1w, Tr.run_guard (by decide), Tr.run_guard (by rw [zag5]; rfl), zag5]
        simp only [Option.getD_some]
        rw [show (if (IntKind.i64.wrap (Int.tdiv (p.Stake.Validators.Tokens.get a.P.V) 100)) > 1 then (IntKind.i64.wrap (Int.tdiv (p.Stake.Validators.Tokens.get a.P.V) 100)) else 1) = z2o p a.P.V from rfl]
        by_cases ht : (zae8 p.Meter (z2o p a.P.V)).2 = true
        · rw [if_pos ht, ht, z1v, Tr.run_guard (by rw [zaln]; rfl), Tr.run_guard (by rw [hs]; rfl), hs, zaln]
          simp only [Option.getD_some]
          by_cases hm : a.P.V ∈ p.Links.Done.get a.C
          · rw [decide_eq_true hm, z1v, Tr.run_leaf]
            have := zamc (p := { p with Stake := (zbs p.Stake a.P.V 0).1, Meter := (zae8 p.Meter (z2o p a.P.V)).1 }) (a := a) ⟨hv, hc, hk, by show (zbs p.Stake a.P.V 0).1.Waits.length * 64 ≤ _; rw [zact]; exact hw, hd⟩ hm
            rw [this]
          · rw [decide_eq_false hm, z1w, Tr.run_guard (by rw [hcl]; rfl), hcl]
            simp only [Option.getD_some]
            rw [Tr.run_guard (by rw [hin]; rfl), Tr.run_leaf, hin, Option.getD_some, hmem (by simpa using hm)]
            rfl
        · rw [if_neg ht, Bool.eq_false_iff.2 ht, z1w, Tr.run_leaf]
end Go.Proofs.YtmakmlnfbdablaaGreat.Ab
namespace Go.Proofs.YtmakmlnfbdablaaGreat.Ab
open Go Go.RowKit
set_option linter.unusedVariables false
set_option linter.unusedSimpArgs false
def upP (p : za) (S : Stake) (D : A2 (List Int)) (M : Meter) : za := { p with Stake := S, Links := { p.Links with Done := D }, Meter := M }
def DealI (p0 p : za) : Prop := ∃ S D M, p = upP p0 S D M ∧ GoodS S ∧ zap (-1) D.x0 = true ∧ zap (-1) D.x1 = true
theorem DealI.get {p0 p : za} (h : DealI p0 p) {c : Int} : zap (-1) (p.Links.Done.get c) = true := by
  obtain ⟨S, D, M, rfl, _, h0, h1⟩ := h
  show zap (-1) (D.get c) = true
  unfold A2.get; split <;> assumption
theorem DealI.good {p0 p : za} (h : DealI p0 p) : GoodS p.Stake := by obtain ⟨S, D, M, rfl, h, _⟩ := h; exact h
theorem zame {p0 : za} {S : Stake} {D : A2 (List Int)} {M : Meter} {c v : Int} (h0 : zap (-1) D.x0 = true) (h1 : zap (-1) D.x1 = true) : ∃ D', zama (upP p0 S D M) c v = upP p0 S D' M ∧ zap (-1) D'.x0 = true ∧ zap (-1) D'.x1 = true := by
  refine ⟨D.set c (insD (D.get c) v), rfl, ?_, ?_⟩
  · show zap (-1) (if c = 0 then insD (D.get c) v else D.x0) = true
    split
    · exact zal9 _ _
    · exact h0
  · show zap (-1) (if c = 1 then insD (D.get c) v else D.x1) = true
    split
    · exact zal9 _ _
    · exact h1
theorem zrz {s : Stake} (hg : GoodS s) (v h f : Int) : GoodS (zgt s v h f).1 := (z8r hg v h f).1
theorem zup {s : Stake} (hg : GoodS s) (v : Int) {what : Int} (hw : what = 0 ∨ what = 1 ∨ what = 2) : GoodS (zbs s v what).1 := (z8q hg v hw).1
theorem zag7 {p0 p : za} (h : DealI p0 p) (a : Asked) : DealI p0 (z6o p a).1 := by
  obtain ⟨S, D, M, rfl, hS, h0, h1⟩ := h
  unfold z6o
  split
  · exact ⟨zrv S a.C a.P.Id, D, M, rfl, z3l hS, h0, h1⟩
  · split
    · split
      · exact ⟨S, D, M, rfl, hS, h0, h1⟩
      · exact ⟨_, D, M, rfl, zup (zrz hS _ _ _) _ (.inr (.inr rfl)), h0, h1⟩
    · split
      · obtain ⟨D', e, k0, k1⟩ := zame (p0 := p0) (S := S) (M := M) (c := a.C) (v := a.P.V) h0 h1
        exact ⟨S, D', M, e, hS, k0, k1⟩
      · split
        · obtain ⟨D', e, k0, k1⟩ := zame (p0 := p0) (S := (zbs S a.P.V 0).1) (M := (zae8 M (z2o (upP p0 S D M) a.P.V)).1) (c := a.C) (v := a.P.V) h0 h1
          exact ⟨_, D', _, e, zup hS _ (.inl rfl), k0, k1⟩
        · exact ⟨S, D, M, rfl, hS, h0, h1⟩
def z34 (t : za × A2 Bool × List Asked) (a : Asked) : za × A2 Bool × List Asked :=
  if t.2.1.get a.C = true then (t.1, t.2.1.set a.C true, t.2.2 ++ [a])
  else if (z6o t.1 a).2 = true then ((z6o t.1 a).1, t.2.1, t.2.2)
  else ((z6o t.1 a).1, t.2.1.set a.C true, t.2.2 ++ [a])
def zac5 (p0 : za) (i : Nat) (t : za × A2 Bool × List Asked) : Prop :=
  DealI p0 t.1 ∧ t.2.2.length ≤ i ∧ (∀ c : Int, 0 ≤ c ∧ c < 2 → t.2.1.get c = t.2.2.any (fun b => b.C == c)) ∧ ∀ b, b ∈ t.2.2 → b ∈ p0.Queue
theorem zan {α : Type} (a : A2 α) {i j : Int} (y : α) (hi : 0 ≤ i ∧ i < 2) (hj : 0 ≤ j ∧ j < 2) : (a.set i y).get j = if j = i then y else a.get j := by
  rcases (show i = 0 ∨ i = 1 by omega) with rfl | rfl <;> rcases (show j = 0 ∨ j = 1 by omega) with rfl | rfl <;> rfl
theorem zaa4 {p0 : za} {i : Nat} {t : za × A2 Bool × List Asked} (h : zac5 p0 i t) {a : Asked} (hc : 0 ≤ a.C ∧ a.C < 2) (ha : a ∈ p0.Queue) : zac5 p0 (i + 1) (z34 t a) := by
  obtain ⟨h1, h2, h3, h4⟩ := h
  have more : ∀ p, DealI p0 p → zac5 p0 (i + 1) (p, t.2.1.set a.C true, t.2.2 ++ [a]) := by
    intro p hp
    refine ⟨hp, by simp; omega, fun c hcc => ?_, fun b hb => ?_⟩
    · show (t.2.1.set a.C true).get c = (t.2.2 ++ [a]).any (fun b => b.C == c)
      rw [zan _ _ hc hcc, List.any_append]
      by_cases e : c = a.C
      · rw [if_pos e]; simp [e]
      · rw [if_neg e, h3 c hcc]; simp [Ne.symm e]
    · rcases List.mem_append.1 hb with hb | hb
      · exact h4 b hb
      · rw [List.mem_singleton.1 hb]; exact ha
  unfold z34
  split
  · exact more _ h1
  · split
    · exact ⟨zag7 h1 a, by simp only []; omega, h3, h4⟩
    · exact more _ (zag7 h1 a)
theorem zaub {p0 p : za} (hp : DealI p0 p) {q : za} {a : Asked} (ha : zya q a = true) : zamb p a := by
  unfold zya at ha
  simp only [Bool.and_eq_true, decide_eq_true_eq, beq_iff_eq, Bool.not_eq_true', beq_eq_false_iff_ne] at ha
  obtain ⟨⟨⟨⟨c0, c1⟩, _⟩, hg⟩, hk⟩ := ha
  have hf := zgz hg
  exact ⟨⟨hf.2.2.2.2.1, hf.2.2.2.2.2.1⟩, ⟨c0, c1⟩, by omega, hp.good.fit, hp.get⟩
theorem zapl {p0 : za} {q : za} {now : Int} {d : za} {l : List Asked} {p : za} (hp : DealI p0 p) (hl : l.length * 88 ≤ 140737488351232) (ha : ∀ a, a ∈ l → zya q a = true ∧ a ∈ p0.Queue) :
    zhc now l l.length 0 p d ⟨false, false⟩ [] = some (now, (l.foldl z34 (p, ⟨false, false⟩, [])).1, d, (l.foldl z34 (p, ⟨false, false⟩, [])).2.2) := by
  rw [zhc]
  have := zln (F := fun s : Int × (List Asked) × Int × Int × za × za × (A2 Bool) × (List Asked) => (zfy s.1 s.2.1 s.2.2.1 s.2.2.2.1 s.2.2.2.2.1 s.2.2.2.2.2.1 s.2.2.2.2.2.2.1 s.2.2.2.2.2.2.2).run) l default
    (fun i (t : za × A2 Bool × List Asked) => (now, l, (l.length : Int), (i : Int), t.1, d, t.2.1, t.2.2)) (zac5 p0) z34 (fun t => (now, t.1, d, t.2.2)) (by
      intro t _
      simp only [zfy]
      rw [Tr.run_false (by simp), Tr.run_leaf]) (by
      intro i t hi hI
      obtain ⟨a1, a2⟩ := ha _ (zfk (l := l) (k := i) hi default)
      have hfit := zaub hI.1 a1
      refine ⟨?_, zaa4 hI hfit.c a2⟩
      have hlen := hI.2.1
      simp only [zfy, Int.toNat_natCast]
      rw [Tr.run_true (by simpa using hi), Tr.run_guard ⟨by omega, by show (i : Int) < (l.length : Nat); omega⟩, Tr.run_guard hfit.c]
      unfold z34
      by_cases hw : t.2.1.get (l.getD i default).C = true
      · rw [if_pos hw, Tr.run_true hw, Tr.run_true (show true = true from rfl), Tr.run_true (show true = true from rfl), Tr.run_true (show true = true from rfl)]
        rw [Tr.run_guard hfit.c, Tr.run_guard (by show (t.2.2.length + 1) * 88 ≤ _; omega), Tr.run_leaf, zx (by omega)]
      · rw [if_neg hw, Tr.run_false (Bool.eq_false_iff.2 hw), Tr.run_bind (zaua hfit)]
        simp only []
        by_cases hd : (z6o t.1 (l.getD i default)).2 = true
        · rw [if_pos hd, Tr.run_false (by rw [hd]; rfl), Tr.run_leaf, zx (by omega)]
        · rw [if_neg hd, Tr.run_true (by rw [Bool.eq_false_iff.2 hd]; rfl), Tr.run_guard hfit.c, Tr.run_guard (by show (t.2.2.length + 1) * 88 ≤ _; omega), Tr.run_leaf, zx (by omega)]) (p, ⟨false, false⟩, []) ⟨hp, by simp, fun c hc => by rcases (show c = 0 ∨ c = 1 by omega) with rfl | rfl <;> rfl, fun b hb => by cases hb⟩
  exact this
end Go.Proofs.YtmakmlnfbdablaaGreat.Ab
namespace Go.Proofs.YtmakmlnfbdablaaGreat.Ab
open Go Go.RowKit
set_option linter.unusedVariables false
set_option linter.unusedSimpArgs false
def dOf (p : za) (c : Int) : List Power := zru (fP (p.Links.Told.get c)) (fP p.Set)
def pkOf (p : za) (c : Int) : Packet := ⟨1, p.Height, 0, 0, dOf p c, p.Links.Done.get c⟩
def zqs (p : za) (c now : Int) : zeg × Int := sayL (ziq p.Links c) (zhq (pkOf p c)).1 (now + 40)
def zapm (p : za) (c now : Int) : za :=
  { p with Links := { p.Links with Told := p.Links.Told.set c p.Set, Fresh := p.Links.Fresh.set c false, Done := p.Links.Done.set c [], Said := p.Links.Said.set c (zqs p c now).1.Said, Due := p.Links.Due.set c (zqs p c now).1.Due, Got := p.Links.Got.set c (zqs p c now).1.Got, Closed := p.Links.Closed.set c (zqs p c now).1.Closed } }
def z3n (p : za) (c : Int) : Prop := p.Links.On.get c = false ∨ (dOf p c = [] ∧ p.Links.Done.get c = [] ∧ p.Links.Fresh.get c = false)
instance (p : za) (c : Int) : Decidable (z3n p c) := by
  have : Decidable (dOf p c = []) := decidable_of_iff ((dOf p c).length = 0) List.length_eq_zero_iff
  have : Decidable (p.Links.Done.get c = []) := decidable_of_iff ((p.Links.Done.get c).length = 0) List.length_eq_zero_iff
  exact inferInstanceAs (Decidable (_ ∨ _))
def ze6 (p : za) (c now : Int) : za :=
  if z3n p c then p else if (zhq (pkOf p c)).2 ≠ 0 then p else if (zqs p c now).2 ≠ 0 then p else zapm p c now
structure zaa5 (p : za) (c : Int) : Prop where
  t : (p.Links.Told.get c).length ≤ 9223372036854775807
  s : p.Set.length ≤ 6
  d : (p.Links.Done.get c).length ≤ 6
  u : (p.Links.Due.get c).length ≤ 9223372036854775807
theorem quiet_iff {p : za} {c : Int} : z3n p c ↔ p.Links.On.get c = false ∨ ((dOf p c).length = 0 ∧ (p.Links.Done.get c).length = 0 ∧ p.Links.Fresh.get c = false) := by
  unfold z3n; rw [List.length_eq_zero_iff, List.length_eq_zero_iff]
theorem zz6 {l : List Power} (h : l.length ≤ 6) : zak l = some l := by
  rw [zak, zcl]
  refine Tr.run_split (fun h0 => ?_) (fun _ => ?_) (.inr trivial)
  · rw [Tr.run_leaf, List.length_eq_zero_iff.1 h0]
  · rw [Tr.run_guard (by simp only [zao, List.length_nil]; omega), Tr.run_leaf]
theorem zamf {p : za} {c now : Int} (hf : zaa5 p c) (hc : 0 ≤ c ∧ c < 2) (hn : 0 ≤ now ∧ now ≤ 1099511627776) : zjq c now p = some (ze6 p c now) := by
  obtain ⟨ft, fs, fd, fu⟩ := hf
  have hdl : (dOf p c).length ≤ 6 := zah7 _ _
  have hD : zev (p.Links.Told.get c) p.Set = some (dOf p c) := zao7 ft (by omega)
  have hE : zbn (⟨1, p.Height, 0, 0, dOf p c, p.Links.Done.get c⟩ : Packet) = some (zhq (pkOf p c)) := z55 (by show (dOf p c).length * 16 ≤ _; omega) (by show (p.Links.Done.get c).length * 8 ≤ _; omega)
  rw [zjq, zk8, Tr.run_guard hc, Tr.run_guard (by rw [hD]; rfl), hD]
  simp only [Option.getD_some]
  unfold ze6
  by_cases hq : z3n p c
  · rw [if_pos hq, Tr.run_true (by
      rw [quiet_iff] at hq
      simp only [Bool.or_eq_true, Bool.and_eq_true, Bool.not_eq_true', beq_iff_eq]
      rcases hq with h | ⟨h1, h2, h3⟩
      · exact .inl h
      · exact .inr ⟨⟨by omega, h3⟩, by omega⟩), Tr.run_leaf]
  · rw [if_neg hq, Tr.run_false (by
      rw [Bool.eq_false_iff]
      intro h
      simp only [Bool.or_eq_true, Bool.and_eq_true, Bool.not_eq_true', beq_iff_eq] at h
      refine hq (quiet_iff.2 ?_)
      rcases h with h | ⟨⟨h1, h2⟩, h3⟩
      · exact .inl h
      · exact .inr ⟨by omega, by omega, h2⟩), Tr.run_guard (by rw [hE]; rfl), hE]
    simp only [Option.getD_some]
    by_cases he : (zhq (pkOf p c)).2 ≠ 0
    · rw [if_pos he, Tr.run_true (by simpa using he), Tr.run_leaf]
    · rw [if_neg he, Tr.run_false (by simpa using he), zn (x := now + 40) (by omega) (by omega), Tr.run_bind (zaqy _ _ _)]
      by_cases hs : (zqs p c now).2 ≠ 0
      · rw [if_pos hs, Tr.run_true (by simpa [zqs] using hs), Tr.run_leaf]
      · rw [if_neg hs, Tr.run_false (by simpa [zqs] using hs), Tr.run_guard (by rw [zz6 fs]; rfl), Tr.run_leaf, zz6 fs]
        rfl
def zvi (p : za) (now : Int) : za := { p with Height := p.Height + 1, Time := now, Meter := zaio p.Meter (allP p.Set) now }
def zgu (p : za) (now : Int) : za × A2 Bool × List Asked := p.Queue.foldl z34 (zvi p now, ⟨false, false⟩, [])
def zpj (p : za) (now : Int) : za :=
  { (zgu p now).1 with Stake := (z7u (zgu p now).1.Stake now).1, Set := setS (z7u (zgu p now).1.Stake now).1, Queue := (zgu p now).2.2 }
def zjh (p : za) (now : Int) : za × List Int × Int :=
  if zad p = true ∧ p.Time ≤ now ∧ now ≤ 1099511627776 then (ze6 (ze6 (zpj p now) 0 now) 1 now, (z7u (zgu p now).1.Stake now).2.1, 0) else (p, [], 2)
theorem zag8 (l : List Power) : i64 (allP l) := by
  have : ∀ (l : List Power) (t : Int), i64 t → i64 (l.foldl (fun t p => IntKind.i64.wrap (t + p.N)) t) := by
    intro l
    induction l with
    | nil => intro t ht; exact ht
    | cons q l ih => intro t _; exact ih _ (by show i64 (IntKind.i64.wrap (t + q.N)); rw [IntKind.wrap_i64]; unfold i64; omega)
  exact this l 0 (by unfold i64; omega)
theorem z6p {p : za} {now : Int} (hg : zad p = true) : DealI (zvi p now) (zvi p now) := by
  obtain ⟨g1, _, _, k0, k1, _⟩ := zj8 hg
  unfold okLk at k0 k1
  simp only [Bool.and_eq_true] at k0 k1
  exact ⟨p.Stake, p.Links.Done, zaio p.Meter (allP p.Set) now, rfl, g1, k0.2, k1.2⟩
theorem zag9 {p0 : za} : ∀ (l : List Asked) (i : Nat) (t : za × A2 Bool × List Asked), zac5 p0 i t → (∀ a, a ∈ l → (0 ≤ a.C ∧ a.C < 2) ∧ a ∈ p0.Queue) → zac5 p0 (i + l.length) (l.foldl z34 t)
  | [], i, t, h, _ => h
  | a :: l, i, t, h, ha => by
    have := zag9 l (i + 1) (z34 t a) (zaa4 h (ha a (List.mem_cons_self ..)).1 (ha a (List.mem_cons_self ..)).2) (fun b hb => ha b (List.mem_cons_of_mem _ hb))
    rw [List.foldl_cons, List.length_cons, show i + (l.length + 1) = i + 1 + l.length by omega]
    exact this
theorem zafc {p : za} (hg : zad p = true) : ∀ a, a ∈ p.Queue → zya p a = true ∧ (0 ≤ a.C ∧ a.C < 2) := by
  intro a ha
  have h := List.all_eq_true.1 (zj8 hg).2.2.2.2.2 a ha
  refine ⟨h, ?_⟩
  unfold zya at h
  simp only [Bool.and_eq_true, decide_eq_true_eq] at h
  exact h.1.1.1
theorem zti {p : za} {now : Int} (hg : zad p = true) : zac5 (zvi p now) p.Queue.length (zgu p now) := by
  have := zag9 (p0 := zvi p now) p.Queue 0 (zvi p now, ⟨false, false⟩, []) ⟨z6p hg, by simp, fun c hc => by rcases (show c = 0 ∨ c = 1 by omega) with rfl | rfl <;> rfl, fun b hb => by cases hb⟩ (fun a ha => ⟨(zafc hg a ha).2, ha⟩)
  rwa [Nat.zero_add] at this
theorem zaha {p : za} (hf : FitPr 140737488351232 p) {now : Int} (hg : zad p = true) (c : Int) : zaa5 (zpj p now) c := by
  have hq := zti (now := now) hg
  obtain ⟨S, D, M, e, hS, d0, d1⟩ := hq.1
  have ht := hf.told c
  have hu := hf.due c
  refine ⟨?_, ztb _, ?_, ?_⟩
  · show ((zgu p now).1.Links.Told.get c).length ≤ _
    rw [e]; show (p.Links.Told.get c).length ≤ _; omega
  · show ((zgu p now).1.Links.Done.get c).length ≤ 6
    exact z4k hq.1.get
  · show ((zgu p now).1.Links.Due.get c).length ≤ _
    rw [e]; show (p.Links.Due.get c).length ≤ _; omega
theorem zapn {p : za} {now : Int} (h : zaa5 p 1) : zaa5 (ze6 p 0 now) 1 := by
  unfold ze6
  split
  · exact h
  · split
    · exact h
    · split
      · exact h
      · exact ⟨h.t, h.s, h.d, h.u⟩
theorem zahb {p : za} {now : Int} : (((!zad p) || (decide (now < p.Time))) || (decide (now > 1099511627776))) = !decide (zad p = true ∧ p.Time ≤ now ∧ now ≤ 1099511627776) := by
  rw [Bool.eq_iff_iff]
  simp only [Bool.or_eq_true, Bool.not_eq_true', decide_eq_true_eq, decide_eq_false_iff_not]
  cases zad p <;> simp <;> omega
theorem zair {p : za} (hf : FitPr 140737488351232 p) {now : Int} : zdd p now = some (zjh p now) := by
  have hset := hf.set
  rw [zdd, zm2, Tr.run_bind (zj7 hf)]
  unfold zjh
  by_cases hg : zad p = true ∧ p.Time ≤ now ∧ now ≤ 1099511627776
  · obtain ⟨hg1, hg2⟩ := hg
    have hnum := (zj8 hg1).2.1
    unfold z3m at hnum
    rw [if_pos ⟨hg1, hg2⟩, Tr.run_false (by rw [zahb, decide_eq_true ⟨hg1, hg2⟩]; rfl), Tr.run_guard (by rw [zaq0 (by omega)]; rfl), zaq0 (by omega)]
    simp only [Option.getD_some]
    rw [Tr.run_guard (by rw [zag4 (zag8 _)]; rfl), zag4 (zag8 _), zn (x := p.Height + 1) (by omega) (by omega)]
    simp only [Option.getD_some]
    have hloop := zapl (p0 := zvi p now) (q := p) (now := now) (d := default) (l := p.Queue) (p := zvi p now) (z6p hg1) hf.queue (fun a ha => ⟨(zafc hg1 a ha).1, ha⟩)
    have hinv := zti (now := now) hg1
    have hgs : GoodS (zgu p now).1.Stake := hinv.1.good
    have hpay := zaa3 hgs now
    have hz : (z7u (zgu p now).1.Stake now).2.2 = 0 := by rw [zae4 hgs]
    rw [Tr.run_bind (show zhc now p.Queue ((p.Queue.length : Nat) : Int) 0 (⟨p.Height + 1, now, p.Stake, p.Set, p.Links, zaio p.Meter (allP p.Set) now, p.Queue⟩ : za) default ⟨false, false⟩ [] = some (now, (zgu p now).1, default, (zgu p now).2.2) from hloop)]
    simp only []
    rw [Tr.run_bind (show zre (zgu p now).1.Stake now = _ from zazj), Tr.run_false (by rw [hz]; rfl), Tr.run_bind (zazm hpay)]
    have h0 := zamf (now := now) (zaha hf (now := now) hg1 0) (by omega) (by omega)
    have h1 := zamf (now := now) (zapn (now := now) (zaha hf (now := now) hg1 1)) (by omega) (by omega)
    rw [Tr.run_bind (v := ((z7u (zgu p now).1.Stake now).2.1, ze6 (ze6 (zpj p now) 0 now) 1 now, default)) (by
      show zlb now (z7u (zgu p now).1.Stake now).2.1 0 (zpj p now) default = _
      rw [zlb, zde (s' := (now, (z7u (zgu p now).1.Stake now).2.1, ((1 : Nat) : Int), ze6 (zpj p now) 0 now, default)) (by
          simp only [zfz]
          rw [Tr.run_true (by simp), Tr.run_bind h0, Tr.run_leaf]; rfl),
        zde (s' := (now, (z7u (zgu p now).1.Stake now).2.1, ((2 : Nat) : Int), ze6 (ze6 (zpj p now) 0 now) 1 now, default)) (by
          simp only [zfz]
          rw [Tr.run_true (by simp)]
          rw [Tr.run_bind (show zjq ((1 : Nat) : Int) now _ = _ from h1), Tr.run_leaf]; rfl),
        ze4 (by
          simp only [zfz]
          rw [Tr.run_false (by simp), Tr.run_leaf])]), Tr.run_leaf]
  · rw [if_neg hg, Tr.run_true (by rw [zahb, decide_eq_false hg]; rfl), Tr.run_leaf]
end Go.Proofs.YtmakmlnfbdablaaGreat.Ab
namespace Go.Proofs.YtmakmlnfbdablaaGreat.Ab
open Go Go.RowKit
set_option linter.unusedVariables false
set_option linter.unusedSimpArgs false
theorem z8x : zad zac1 = true := by decide
theorem zahc {p : za} {c now : Int} (h : p.Links.On.get c = false) : ze6 p c now = p := by unfold ze6; rw [if_pos (.inl h)]
end Go.Proofs.YtmakmlnfbdablaaGreat.Ab
namespace Go.Proofs.YtmakmlnfbdablaaGreat.Ab
open Go Go.RowKit
set_option linter.unusedVariables false
set_option linter.unusedSimpArgs false
theorem zf8 (l : List Asked) : Sl.len (.asked l) = l.length := rfl
theorem zais {s : Stake} (hg : GoodS s) {v h : Int} (hv : 0 ≤ v ∧ v < 6) : (zgt s v h 50).2.2 = 0 := by
  unfold zgt
  rw [if_neg (by rw [z2l hg (by omega) hv]; simp), if_neg (by omega)]
theorem zamg {s : Stake} (hg : GoodS s) {v : Int} (hv : 0 ≤ v ∧ v < 6) (hd : s.Validators.Dead.get v = false) : (zbs s v 2).2 = 0 := by
  unfold zbs
  rw [if_neg (by rw [z2l hg (by omega) hv]; simp), if_neg (by omega), if_neg (by rw [hd]; simp), if_neg (by omega)]
theorem z8y (s : Stake) (v h f : Int) : (zgt s v h f).1.Validators.Dead = s.Validators.Dead := by
  unfold zgt
  repeat' split
  all_goals rfl
def zxh (p : za) (v h : Int) : za × Int :=
  if zad p = false then (p, 2) else if 0 ≤ v ∧ v < 6 then (if 1 ≤ h ∧ h ≤ p.Height then (if p.Stake.Validators.Dead.get v = true then (p, 15) else ({ p with Stake := (zbs (zgt p.Stake v h 50).1 v 2).1 }, 0)) else (p, 2)) else (p, 4)
theorem z6q {p : za} (hf : FitPr 140737488351232 p) {v h : Int} : ziu p v h = some (zxh p v h) := by
  rw [ziu, zgh, Tr.run_bind (zj7 hf)]
  unfold zxh
  cases hg : zad p with
  | false => rw [z1w, Tr.run_leaf, if_pos rfl]
  | true =>
    rw [z1v, if_neg (by simp)]
    by_cases hv : 0 ≤ v ∧ v < 6
    · rw [Tr.run_false (by simp; omega), if_pos hv]
      by_cases hh : 1 ≤ h ∧ h ≤ p.Height
      · rw [Tr.run_false (by simp; omega), if_pos hh, Tr.run_guard hv]
        cases hd : p.Stake.Validators.Dead.get v with
        | true => rw [Tr.run_true rfl, Tr.run_leaf, if_pos rfl]
        | false =>
          have hs := (zj8 hg).1
          rw [Tr.run_false rfl, if_neg (by simp), Tr.run_bind zaay, Tr.run_false (by rw [zais hs hv]; rfl), Tr.run_bind zaex, Tr.run_false (by rw [zamg (zrz hs v h 50) hv (by rw [z8y]; exact hd)]; rfl), Tr.run_leaf]
      · rw [Tr.run_true (by simp; omega), Tr.run_leaf, if_neg hh]
    · rw [Tr.run_true (by simp; omega), Tr.run_leaf, if_neg hv]
def zol (p : za) (c : Int) (s : List UInt8) : za × Int :=
  if zad p = false then (p, 2) else if (0 ≤ c ∧ c < 2) ∧ p.Links.On.get c = true then (if (zaz s).2 ≠ 0 then (p, (zaz s).2) else if (zaz s).1.Kind = 1 then (p, 3) else ({ p with Queue := p.Queue ++ [⟨c, (zaz s).1⟩] }, 0)) else (p, 4)
theorem z8z {l : List Asked} (h : l.length * 88 ≤ 140737488351232) : zar l = some l := by
  rw [zar, zdj]
  refine Tr.run_split (fun h0 => ?_) (fun _ => ?_) (.inr trivial)
  · rw [Tr.run_leaf, List.length_eq_zero_iff.1 h0]
  · rw [Tr.run_guard (by simp only [zf8, List.length_nil]; omega), Tr.run_leaf]
theorem zafd {p : za} (hf : FitPr 140737488351232 p) {c : Int} {a : ByteArray} (ha : a.size ≤ 140737488355328) : zbf p c a = some (zol p c a.data.toList) := by
  have e1 : zcz a = some (zaz a.data.toList) := z57 (s := a.data.toList) (by have : a.data.toList.length = a.size := rfl; omega)
  have hq := hf.queue
  rw [zbf, zk7, Tr.run_bind e1, Tr.run_bind (zj7 hf)]
  simp only [z8z hf.queue, Option.isSome_some, Option.getD_some]
  unfold zol
  cases hg : zad p with
  | false => rw [z1w, Tr.run_leaf, if_pos rfl]
  | true =>
    rw [z1v, if_neg (by simp), Tr.run_guard (by
      intro h0
      simp only [Bool.or_eq_false_iff, decide_eq_false_iff_not] at h0
      exact ⟨by omega, trivial⟩)]
    by_cases hc : (0 ≤ c ∧ c < 2) ∧ p.Links.On.get c = true
    · rw [if_pos hc, Tr.run_false (by rw [hc.2]; simp; omega)]
      by_cases hd : (zaz a.data.toList).2 = 0
      · rw [Tr.run_false (by simpa using hd), if_neg (by simpa using hd)]
        by_cases hk : (zaz a.data.toList).1.Kind = 1
        · rw [Tr.run_true (by simpa using hk), if_pos hk, Tr.run_leaf]
        · rw [Tr.run_false (by simpa using hk), if_neg hk, Tr.run_guard (by trivial), Tr.run_guard (by simp only [zf8, List.length_singleton]; omega), Tr.run_leaf]
      · rw [Tr.run_true (by simpa using hd), if_pos hd, Tr.run_leaf]
    · rw [if_neg hc, Tr.run_true (by
        simp only [Bool.or_eq_true, decide_eq_true_eq, Bool.not_eq_true']
        by_cases h1 : 0 ≤ c ∧ c < 2
        · exact .inr (Bool.eq_false_iff.2 (fun h2 => hc ⟨h1, h2⟩))
        · exact .inl (by omega)), Tr.run_leaf]
theorem z6r {p : Packet} (h : zeb p = 0) : p.Set.length ≤ 6 ∧ p.Done.length ≤ 6 := by
  obtain ⟨_, _, _, _, _, _, _, _, g9, g10, _⟩ := zgz h
  have l1 := zd2 g9 (by omega)
  exact ⟨by omega, z4k g10⟩
theorem zahd {s : List UInt8} (h : (zaz s).2 = 0) : zeb (zaz s).1 = 0 := by
  unfold zaz at h ⊢
  split
  · rename_i k; rw [if_pos k] at h; cases h
  · rename_i k
    rw [if_neg k] at h
    split
    · rename_i k2; rw [if_pos k2] at h; exact absurd h k2
    · rename_i k2; exact Classical.not_not.1 k2
end Go.Proofs.YtmakmlnfbdablaaGreat.Ab
namespace Go.Proofs.YtmakmlnfbdablaaGreat.Ab
open Go Go.RowKit
set_option linter.unusedVariables false
set_option linter.unusedSimpArgs false
def zir (L : Links) (c H : Int) (T : List Power) (f : Bool) : Links :=
  ⟨L.On.set c true, L.Gone.set c false, L.Base.set c H, L.Told.set c T, L.Fresh.set c f, L.Done.set c [], L.Said.set c [], L.Due.set c [], L.Got.set c 0, L.Closed.set c false, L.SHeight.set c 0, L.STime.set c 0, L.SSaid.set c 0, L.SGot.set c 0⟩
def zom (p : za) (c : Int) (W : List Wait) (f : Bool) : za := { p with Stake := { p.Stake with Waits := W }, Links := zir p.Links c p.Height p.Set f }
def zji (c H : Int) (w : Wait) : Wait := if H < w.Height then { w with h0 := if c = 0 then w.Height else w.h0, h1 := if c = 1 then w.Height else w.h1 } else w
def zxz (p : za) : Bool := p.Stake.Waits.any (fun w => decide (p.Height < w.Height))
def zep (p : za) (c : Int) : za × Int :=
  if zad p = false then (p, 2) else if 0 ≤ c ∧ c < 2 then (if p.Links.Gone.get c = true then (p, 11) else if p.Links.On.get c = true then (p, 5) else if p.Height < 1 ∨ p.Set.length = 0 then (p, 13)
    else (zom p c (p.Stake.Waits.map (zji c p.Height)) (zxz p), 0)) else (p, 4)
theorem zahe {α : Type} (q : α → Bool) : ∀ (l : List α) (b : Bool), l.foldl (fun t w => t || q w) b = (b || l.any q)
  | [], b => by simp
  | a :: l, b => by rw [List.foldl_cons, zahe q l, List.any_cons, Bool.or_assoc]
theorem zait {α : Type} (a : A2 α) (c : Int) (x y : α) : (a.set c x).set c y = a.set c y := by
  unfold A2.set
  by_cases h : c = 0
  · subst h; rfl
  · by_cases h1 : c = 1
    · subst h1; rfl
    · simp [h, h1]
theorem zazs {l W : List Wait} {i : Nat} {w : Wait} (hi : i < W.length) (hg : W.getD i default = w) : W.set i w = W := by rw [← hg, zaav hi]
theorem zaiu {p z : za} {c : Int} (hc : 0 ≤ c ∧ c < 2) (hw : p.Stake.Waits.length * 64 ≤ 140737488351232) :
    zit c p.Stake.Waits.length 0 (zom p c p.Stake.Waits false) z = some (zom p c (p.Stake.Waits.map (zji c p.Height)) (zxz p), z) := by
  rw [zit]
  have := zaaw (F := fun s : Int × Int × Int × za × za => (zd7 s.1 s.2.1 s.2.2.1 s.2.2.2.1 s.2.2.2.2).run) p.Stake.Waits default
    (fun i W (f : Bool) => (c, (p.Stake.Waits.length : Int), (i : Int), zom p c W f, z)) (fun _ _ => True) (zji c p.Height) (fun t w => t || decide (p.Height < w.Height)) (fun W f => (zom p c W f, z)) ?_ ?_ false trivial
  · rw [zahe] at this
    exact this
  · intro W t hW _
    simp only [zd7]; rw [Tr.run_false (by simp), Tr.run_leaf]
  · intro i W t hi hW hg _
    refine ⟨?_, trivial⟩
    simp only [zd7]
    rw [Int.toNat_natCast, show (zom p c W t).Stake.Waits = W from rfl, hg, show (zom p c W t).Height = p.Height from rfl]
    generalize hw' : p.Stake.Waits.getD i default = w at hg ⊢
    rw [Tr.run_true (by simpa using hi), Tr.run_guard ⟨by omega, by rw [zch]; omega⟩]
    by_cases hp : p.Height < w.Height
    · rw [Tr.run_true (by simpa using hp), Tr.run_guard hc, Tr.run_guard hc, Tr.run_leaf, zx (by omega)]
      have e : zji c p.Height w = { w with h0 := if c = 0 then w.Height else w.h0, h1 := if c = 1 then w.Height else w.h1 } := if_pos hp
      rw [e, decide_eq_true hp, Bool.or_true]
      rw [show (zom p c W t).Links.Fresh = p.Links.Fresh.set c t from rfl, zait]
      rfl
    · rw [Tr.run_false (by simpa using hp), Tr.run_leaf, zx (by omega)]
      have e : zji c p.Height w = w := if_neg hp
      rw [e, decide_eq_false hp, Bool.or_false, zazs (l := W) (by omega) hg]
theorem zac6 {p : za} (hf : FitPr 140737488351232 p) {c : Int} : zal p c = some (zep p c) := by
  rw [zal, zjp, Tr.run_bind (zj7 hf)]
  unfold zep
  cases hg : zad p with
  | false => rw [z1w, Tr.run_leaf, if_pos rfl]
  | true =>
    rw [z1v, if_neg (by simp)]
    by_cases hc : 0 ≤ c ∧ c < 2
    · rw [Tr.run_false (by simp; omega), if_pos hc, Tr.run_guard hc]
      cases h1 : p.Links.Gone.get c with
      | true => rw [Tr.run_true rfl, Tr.run_leaf, if_pos rfl]
      | false =>
        rw [Tr.run_false rfl, if_neg (by simp), Tr.run_guard hc]
        cases h2 : p.Links.On.get c with
        | true => rw [Tr.run_true rfl, Tr.run_leaf, if_pos rfl]
        | false =>
          rw [Tr.run_false rfl, if_neg (by simp)]
          have hs := zd2 (zj8 hg).2.2.1 (by omega)
          by_cases h3 : p.Height < 1 ∨ p.Set.length = 0
          · rw [if_pos h3, Tr.run_true (by simp only [Bool.or_eq_true, decide_eq_true_eq, beq_iff_eq]; omega), Tr.run_leaf]
          · have hcl := zz6 (l := p.Set) (by omega)
            rw [if_neg h3, Tr.run_false (by simp only [Bool.or_eq_false_iff, decide_eq_false_iff_not, beq_eq_false_iff_ne]; omega), Tr.run_guard (by rw [hcl]; rfl), Tr.run_guard hc, Tr.run_bind (z1t hf.waits), hcl, Tr.run_bind (v := (zom p c (p.Stake.Waits.map (zji c p.Height)) (zxz p), default)) (by exact zaiu hc hf.waits), Tr.run_leaf]
    · rw [Tr.run_true (by simp; omega), Tr.run_leaf, if_neg hc]
def zx0 (L : Links) (c : Int) : Links := { L with On := L.On.set c false, Gone := L.Gone.set c true, Fresh := L.Fresh.set c false, Done := L.Done.set c [], Closed := L.Closed.set c true }
def z4l (c : Int) (a : Asked) : Bool := a.C != c
def zuq (p : za) (c : Int) : za := { p with Stake := zrv p.Stake c 1099511627776, Links := zx0 p.Links c, Queue := p.Queue.filter (z4l c) }
def zur (p : za) (c : Int) : za := if zad p = true ∧ (0 ≤ c ∧ c < 2) ∧ p.Links.On.get c = true then zuq p c else p
theorem zaq3 (a : Asked) (c : Int) : zfi a c = some (!z4l c a, c) := by
  rw [zfi, zgg, Tr.run_leaf]
  unfold z4l
  simp [bne]
theorem zme {α : Type} {l : List α} {i : Nat} (h : i < l.length) (d : α) : l.take (i + 1) = l.take i ++ [l.getD i d] := by
  rw [List.take_succ_eq_append_getElem h, ztf h]
theorem zaiv {l : List Asked} {c : Int} (hl : l.length * 88 ≤ 140737488351232) :
    ∃ r, zb0 l.length 0 c l = some r ∧
      (match r with | .inl y => ∃ k : Nat, y = ((k : Int), c, l) ∧ k < l.length ∧ (l.take k).all (z4l c) = true ∧ z4l c (l.getD k default) = false | .inr y => y = (c, l) ∧ l.all (z4l c) = true) := by
  rw [zb0]
  have := zhp (F := fun s : Int × Int × Int × (List Asked) => (zac s.1 s.2.1 s.2.2.1 s.2.2.2).run) l.length (fun i (_ : Unit) => ((l.length : Int), (i : Int), c, l)) (fun i _ => (l.take i).all (z4l c) = true)
    (fun i _ r => match r with | .inl y => ∃ k : Nat, y = ((k : Int), c, l) ∧ k < l.length ∧ (l.take k).all (z4l c) = true ∧ z4l c (l.getD k default) = false | .inr y => y = (c, l) ∧ l.all (z4l c) = true) ?_ ?_ 0 () (Nat.zero_le _) rfl
  · exact this
  · intro t h
    refine ⟨.inr (c, l), ?_, rfl, by rwa [List.take_length] at h⟩
    simp only [zac]; rw [Tr.run_false (by simp), Tr.run_leaf]
  · intro i t hi h
    simp only [zac]
    rw [Int.toNat_natCast, Tr.run_true (by simpa using hi), Tr.run_guard ⟨by omega, by rw [zf8]; omega⟩, Tr.run_bind (zaq3 _ _)]
    cases hn : z4l c (l.getD i default) with
    | true => exact .inl ⟨(), by rw [Tr.run_false (by rfl), Tr.run_leaf, zx (by omega)], by rw [zme hi default, List.all_append, h, List.all_cons, hn]; rfl, fun r hr => hr⟩
    | false => exact .inr ⟨.inl ((i : Int), c, l), by rw [Tr.run_true (by rfl), Tr.run_leaf], i, rfl, hi, h, hn⟩
theorem zafe {l : List Asked} {c : Int} (hl : l.length * 88 ≤ 140737488351232) {k : Nat} (hk : k < l.length) (ha : (l.take k).all (z4l c) = true) (hn : z4l c (l.getD k default) = false) :
    ∃ r, zb7 k ((k + 1 : Nat) : Int) c l = some r ∧ ∃ n : Nat, r.1 = n ∧ r.2.1 = c ∧ n ≤ l.length ∧ r.2.2.length = l.length ∧ r.2.2.take n = l.filter (z4l c) := by
  rw [zb7]
  have := zhp (F := fun s : Int × Int × Int × (List Asked) => (zai s.1 s.2.1 s.2.2.1 s.2.2.2).run) l.length (fun i (t : Nat × List Asked) => ((t.1 : Int), (i : Int), c, t.2)) (fun i t => t.1 < i ∧ t.2.length = l.length ∧ t.2.take t.1 = (l.take i).filter (z4l c) ∧ t.2.drop i = l.drop i)
    (fun i _ r => ∃ n : Nat, r.1 = n ∧ r.2.1 = c ∧ n ≤ l.length ∧ r.2.2.length = l.length ∧ r.2.2.take n = l.filter (z4l c)) ?_ ?_ (k + 1) (k, l) (by omega) ⟨by omega, rfl, ?_, rfl⟩
  · exact this
  · rintro ⟨n, W⟩ ⟨h1, h2, h3, h4⟩
    simp only at h1 h2 h3 h4
    refine ⟨((n : Int), c, W), ?_, n, rfl, rfl, by omega, h2, by rw [h3, List.take_length]⟩
    simp only [zai]; rw [Tr.run_false (by simp; omega), Tr.run_leaf]
  · rintro i ⟨n, W⟩ hi ⟨h1, h2, h3, h4⟩
    simp only at h1 h2 h3 h4
    have hg : W.getD i default = l.getD i default := by
      have e1 := zay (l := W) (k := i) (by omega) default
      have e2 := zay (l := l) (k := i) hi default
      rw [h4, e2] at e1
      exact (List.cons.inj e1).1.symm
    have hd : W.drop (i + 1) = l.drop (i + 1) := by
      have e1 := zay (l := W) (k := i) (by omega) default
      have e2 := zay (l := l) (k := i) hi default
      rw [h4, e2] at e1
      exact (List.cons.inj e1).2.symm
    simp only [zai]
    rw [Int.toNat_natCast, Int.toNat_natCast, hg, Tr.run_true (by simp; omega), Tr.run_guard ⟨by omega, by rw [zf8]; omega⟩, Tr.run_bind (zaq3 _ _)]
    cases hq : z4l c (l.getD i default) with
    | true =>
      refine .inl ⟨(n + 1, W.set n (l.getD i default)), by rw [Tr.run_true (by rfl), Tr.run_guard ⟨by omega, by rw [zf8]; omega⟩, Tr.run_leaf, zx (by omega), zx (by omega)], ⟨by simp only []; omega, by simp only [List.length_set]; exact h2, ?_, ?_⟩, fun r hr => hr⟩
      · simp only []
        rw [zme (by rw [List.length_set]; omega) default, List.take_set_of_le (by omega), h3, zme hi default, List.filter_append, ztf (by rw [List.length_set]; omega), List.getElem_set_self, List.filter_cons, hq]
        rfl
      · simp only []
        rw [List.drop_set_of_lt (by omega), hd]
    | false =>
      refine .inl ⟨(n, W), by rw [Tr.run_false (by rfl), Tr.run_leaf, zx (by omega)], ⟨by simp only []; omega, h2, ?_, hd⟩, fun r hr => hr⟩
      simp only []
      rw [h3, zme hi default, List.filter_append, List.filter_cons, hq]
      simp
  · simp only []
    rw [zme hk default, List.filter_append, List.filter_cons, hn, List.filter_eq_self.2 (fun a h => List.all_eq_true.1 ha a h)]
    simp
theorem zaiw {l : List Asked} {c : Int} (hl : l.length * 88 ≤ 140737488351232) : zdc c l = some (c, l.filter (z4l c)) := by
  have hi : zbh c l = some (-1, c, l) ∧ l.all (z4l c) = true ∨ ∃ k : Nat, zbh c l = some ((k : Int), c, l) ∧ k < l.length ∧ (l.take k).all (z4l c) = true ∧ z4l c (l.getD k default) = false := by
    obtain ⟨r, h1, h2⟩ := zaiv (c := c) hl
    rw [zbh, zbl]
    cases r with
    | inl y =>
      obtain ⟨k, rfl, h3, h4, h5⟩ := h2
      exact .inr ⟨k, by rw [Tr.run_inl h1, Tr.run_leaf], h3, h4, h5⟩
    | inr y =>
      obtain ⟨rfl, h3⟩ := h2
      exact .inl ⟨by rw [Tr.run_inr h1, Tr.run_leaf], h3⟩
  rw [zdc, zbu]
  rcases hi with ⟨h1, h2⟩ | ⟨k, h1, h2, h3, h4⟩
  · rw [Tr.run_bind h1, Tr.run_true (by rfl), Tr.run_leaf, List.filter_eq_self.2 (fun a h => List.all_eq_true.1 h2 a h)]
  · obtain ⟨r, k1, n, k2, k3, k4, k5, k6⟩ := zafe hl h2 h3 h4
    have hcl : zabz r.2.2 r.1 = some (r.2.2.take n ++ List.replicate (r.2.2.length - n) default) := by
      unfold zabz
      rw [k2, if_pos (by omega), Int.toNat_natCast]
    have hlt : (r.2.2.take n).length = n := by rw [List.length_take]; omega
    rw [Tr.run_bind h1, Tr.run_false (by simp), zx (by omega), Tr.run_bind k1, Tr.run_bind hcl, k2, Tr.run_guard ⟨by omega, by rw [zf8, List.length_append, hlt]; omega⟩, Tr.run_leaf, k3, Int.toNat_natCast, List.drop_zero, Nat.sub_zero, List.take_left' hlt, k6]
theorem zaa6 {p : za} (hf : FitPr 140737488351232 p) {c : Int} : zdn p c = some (zur p c) := by
  rw [zdn, zij, Tr.run_bind (zj7 hf)]
  unfold zur
  rw [Tr.run_guard (by
    intro h0
    simp only [Bool.or_eq_false_iff, decide_eq_false_iff_not] at h0
    exact ⟨by omega, trivial⟩)]
  by_cases h : zad p = true ∧ (0 ≤ c ∧ c < 2) ∧ p.Links.On.get c = true
  · obtain ⟨h1, h2, h3⟩ := h
    rw [if_pos ⟨h1, h2, h3⟩, Tr.run_false (by rw [h1, h3]; simp; omega), Tr.run_guard h2, Tr.run_guard h2, Tr.run_guard h2, Tr.run_guard h2, Tr.run_guard h2, Tr.run_bind (z2j hf.waits), Tr.run_bind (z8z hf.queue), Tr.run_bind (zaiw hf.queue), Tr.run_leaf]
    rfl
  · rw [if_neg h, Tr.run_true (by
      simp only [Bool.or_eq_true, decide_eq_true_eq, Bool.not_eq_true']
      cases h1 : zad p with
      | false => exact .inl (.inl (.inl rfl))
      | true =>
        by_cases h2 : 0 ≤ c ∧ c < 2
        · exact .inr (Bool.eq_false_iff.2 (fun h3 => h ⟨h1, h2, h3⟩))
        · exact .inl (by omega)), Tr.run_leaf]
end Go.Proofs.YtmakmlnfbdablaaGreat.Ab
namespace Go.Proofs.YtmakmlnfbdablaaGreat.Ab
open Go Go.RowKit
set_option linter.unusedVariables false
set_option linter.unusedSimpArgs false
theorem zac7 {α : Type} {P : α → Prop} {a : A2 α} (h0 : P (a.get 0)) (h1 : P (a.get 1)) (c : Int) : P (a.get c) := by
  by_cases h : c = 0
  · rw [h]; exact h0
  · have : a.get c = a.get 1 := by unfold A2.get; rw [if_neg h]; rfl
    rw [this]; exact h1
theorem z6s {m : Int} : ∀ {l : List Power} {p : Int}, (∀ q, q ∈ l → p < q.V ∧ q.V ≤ 5 ∧ m ≤ q.N ∧ q.N ≤ 1125899906842624) → l.Pairwise (fun a b => a.V < b.V) → zw m p l = true
  | [], p, _, _ => rfl
  | q :: l, p, h1, h2 => by
    have hq := h1 q (List.mem_cons_self ..)
    rw [List.pairwise_cons] at h2
    simp only [zw, Bool.and_eq_true, decide_eq_true_eq]
    exact ⟨⟨⟨⟨hq.1, hq.2.1⟩, hq.2.2.1⟩, hq.2.2.2⟩, z6s (fun x hx => ⟨h2.1 x hx, (h1 x (List.mem_cons_of_mem _ hx)).2⟩) h2.2⟩
theorem zazt {s : Stake} (hg : GoodS s) : zw 1 (-1) (setS s) = true := by
  refine z6s (fun q hq => ?_) (zxf _)
  obtain ⟨hv, _, hn, h1⟩ := zagz hg hq
  have := (hg.at hv).1.1
  unfold inA at this
  omega
def GoodX (p : za) : Prop := GoodS p.Stake ∧ (0 ≤ p.Height ∧ 0 ≤ p.Time ∧ p.Time ≤ 1099511627776) ∧ zw 1 (-1) p.Set = true ∧ okLk p 0 = true ∧ okLk p 1 = true ∧ p.Queue.all (zya p) = true
theorem goodPr_iff {p : za} : zad p = true ↔ GoodX p ∧ p.Height < 1099511627776 := by
  constructor
  · intro h
    obtain ⟨a, ⟨b1, b2, b3, b4⟩, c, d, e, f⟩ := zj8 h
    exact ⟨⟨a, ⟨b1, b3, b4⟩, c, d, e, f⟩, b2⟩
  · rintro ⟨⟨a, ⟨b1, b3, b4⟩, c, d, e, f⟩, b2⟩
    unfold zad
    simp only [Bool.and_eq_true, decide_eq_true_eq]
    exact ⟨⟨⟨⟨⟨a, b1, b2, b3, b4⟩, c⟩, d⟩, e⟩, f⟩
structure LkX (p : za) (c : Int) : Prop where
  on : ¬ (p.Links.On.get c = true ∧ p.Links.Gone.get c = true)
  b0 : 0 ≤ p.Links.Base.get c
  b1 : p.Links.Base.get c ≤ p.Height
  told : zw 1 (-1) (p.Links.Told.get c) = true
  line : ze5 (ziq p.Links c)
  done : zap (-1) (p.Links.Done.get c) = true
theorem okLk_iff {p : za} {c : Int} : okLk p c = true ↔ LkX p c := by
  unfold okLk
  simp only [Bool.and_eq_true, decide_eq_true_eq]
  constructor
  · rintro ⟨⟨⟨⟨⟨h1, h2⟩, h3⟩, h4⟩, h5⟩, h6⟩
    exact ⟨fun ⟨x, y⟩ => (by rw [x, y] at h1; cases h1), h2, h3, h4, h5, h6⟩
  · rintro ⟨h1, h2, h3, h4, h5, h6⟩
    refine ⟨⟨⟨⟨⟨?_, h2⟩, h3⟩, h4⟩, h5⟩, h6⟩
    cases x : p.Links.On.get c
    · rfl
    · cases y : p.Links.Gone.get c
      · rfl
      · exact absurd ⟨x, y⟩ h1
theorem GoodX.lk {p : za} (h : GoodX p) {c : Int} (hc : 0 ≤ c ∧ c < 2) : LkX p c := by
  rcases (show c = 0 ∨ c = 1 by omega) with rfl | rfl
  · exact okLk_iff.1 h.2.2.2.1
  · exact okLk_iff.1 h.2.2.2.2.1
theorem ask_iff {p : za} {a : Asked} : zya p a = true ↔ (0 ≤ a.C ∧ a.C < 2) ∧ p.Links.On.get a.C = true ∧ zeb a.P = 0 ∧ a.P.Kind ≠ 1 := by
  unfold zya
  simp only [Bool.and_eq_true, decide_eq_true_eq, beq_iff_eq, Bool.not_eq_true', beq_eq_false_iff_ne]
  constructor
  · rintro ⟨⟨⟨⟨c0, c1⟩, c2⟩, c3⟩, c4⟩; exact ⟨⟨c0, c1⟩, c2, c3, c4⟩
  · rintro ⟨⟨c0, c1⟩, c2, c3, c4⟩; exact ⟨⟨⟨⟨c0, c1⟩, c2⟩, c3⟩, c4⟩
theorem GoodX.ask {p : za} (h : GoodX p) {a : Asked} (ha : a ∈ p.Queue) : (0 ≤ a.C ∧ a.C < 2) ∧ p.Links.On.get a.C = true ∧ zeb a.P = 0 ∧ a.P.Kind ≠ 1 := ask_iff.1 (List.all_eq_true.1 h.2.2.2.2.2 a ha)
theorem fitX {p : za} (h : GoodX p) {R : Nat} (hR : 100000 ≤ R) (hq : p.Queue.length * 88 ≤ R) : FitPr R p := by
  have l0 := h.lk (c := 0) (by omega)
  have l1 := h.lk (c := 1) (by omega)
  have lp : ∀ {l : List Power}, zw 1 (-1) l = true → l.length * 16 ≤ R := fun hl => by have := zd2 hl (by omega); omega
  have ld : ∀ {l : List Int}, zap (-1) l = true → l.length * 8 ≤ R := fun hl => by have := z4k hl; omega
  have lS : ∀ {c : Int}, LkX p c → (p.Links.Said.get c).length ≤ 400 ∧ (p.Links.Due.get c).length ≤ 400 := by
    intro c l
    have e1 : (p.Links.Said.get c).length = (p.Links.Due.get c).length := l.line.1
    have e2 : (p.Links.Said.get c).length ≤ 400 := l.line.2.1
    omega
  have s0 := lS l0
  have s1 := lS l1
  have hw : p.Stake.Waits.length ≤ 60 := h.1.2.1.2.2
  have t0 := lp l0.told; have t1 := lp l1.told; have d0 := ld l0.done; have d1 := ld l1.done
  have hset := lp h.2.2.1
  have hask := fun a ha => z6r (h.ask (a := a) ha).2.2.1
  have hw' : p.Stake.Waits.length * 64 ≤ R := by omega
  have a0 : (p.Links.Said.get 0).length * 16 ≤ R := by omega
  have a1 : (p.Links.Said.get 1).length * 16 ≤ R := by omega
  have b0 : (p.Links.Due.get 0).length * 8 ≤ R := by omega
  have b1 : (p.Links.Due.get 1).length * 8 ≤ R := by omega
  have hps : ∀ a, a ∈ p.Queue → a.P.Set.length * 16 ≤ R ∧ a.P.Done.length * 8 ≤ R := fun a ha => by have := hask a ha; omega
  exact ⟨hw', hset, fun c => zac7 (P := fun l : List Power => l.length * 16 ≤ R) (a := p.Links.Told) t0 t1 c, fun c => zac7 (P := fun l : List Int => l.length * 8 ≤ R) (a := p.Links.Done) d0 d1 c,
    fun c => zac7 (P := fun l : List ByteArray => l.length * 16 ≤ R) (a := p.Links.Said) a0 a1 c, fun c => zac7 (P := fun l : List Int => l.length * 8 ≤ R) (a := p.Links.Due) b0 b1 c, hq, hps⟩
theorem zaix {l : zeg} {s : ByteArray} {u : Int} (h : ze5 l) (hu : 0 ≤ u) : ze5 (sayL l s u).1 := by
  unfold sayL
  rw [if_neg (by rintro (k | k); exact k h; omega)]
  split
  · exact h
  · split
    · exact h
    · rename_i h4
      obtain ⟨g1, g2, g3, g4, g5⟩ := h
      refine ⟨by simp [g1], by simp only [List.length_append, List.length_singleton]; omega, g3, by simp only [List.length_append, List.length_singleton]; omega, ?_⟩
      simp only [List.any_append, g5, Bool.false_or, List.any_cons, List.any_nil, Bool.or_false, decide_eq_false_iff_not]
      omega
theorem z4m {p : za} (hg : zad p = true) (now : Int) : ∃ S D M, (zgu p now).1 = upP (zvi p now) S D M ∧ GoodS S ∧ (∀ c : Int, zap (-1) (D.get c) = true) ∧ (zgu p now).2.2.length ≤ p.Queue.length ∧ ∀ b, b ∈ (zgu p now).2.2 → b ∈ p.Queue := by
  obtain ⟨⟨S, D, M, e, hS, d0, d1⟩, hq2, hq3, hq4⟩ := zti (now := now) hg
  exact ⟨S, D, M, e, hS, zac7 (P := fun l => zap (-1) l = true) d0 d1, hq2, hq4⟩
theorem zac8 {p : za} (hg : zad p = true) {now : Int} (hn : p.Time ≤ now ∧ now ≤ 1099511627776) : GoodX (zpj p now) := by
  obtain ⟨S, D, M, e, hS, hd, hl, hm⟩ := z4m hg now
  have hx := (goodPr_iff.1 hg).1
  have hp := zaa3 hS now
  have hn0 := hx.2.1
  unfold zpj
  rw [e]
  refine ⟨hp, ⟨by show 0 ≤ p.Height + 1; omega, by show 0 ≤ now; omega, hn.2⟩, zazt hp, okLk_iff.2 ?_, okLk_iff.2 ?_, List.all_eq_true.2 fun b hb => ?_⟩
  · obtain ⟨a1, a2, a3, a4, a5, a6⟩ := hx.lk (c := 0) (by omega)
    exact ⟨a1, a2, by show p.Links.Base.get 0 ≤ p.Height + 1; omega, a4, a5, hd 0⟩
  · obtain ⟨a1, a2, a3, a4, a5, a6⟩ := hx.lk (c := 1) (by omega)
    exact ⟨a1, a2, by show p.Links.Base.get 1 ≤ p.Height + 1; omega, a4, a5, hd 1⟩
  · exact ask_iff.2 (hx.ask (hm b hb))
theorem z1y (p : za) (c now : Int) : (ze6 p c now).Height = p.Height ∧ (ze6 p c now).Time = p.Time ∧ (ze6 p c now).Stake = p.Stake ∧ (ze6 p c now).Set = p.Set ∧ (ze6 p c now).Meter = p.Meter ∧ (ze6 p c now).Queue = p.Queue ∧
    (ze6 p c now).Links.On = p.Links.On ∧ (ze6 p c now).Links.Gone = p.Links.Gone ∧ (ze6 p c now).Links.Base = p.Links.Base ∧ (ze6 p c now).Links.SHeight = p.Links.SHeight ∧ (ze6 p c now).Links.STime = p.Links.STime ∧ (ze6 p c now).Links.SSaid = p.Links.SSaid ∧ (ze6 p c now).Links.SGot = p.Links.SGot := by
  unfold ze6
  repeat' split
  all_goals exact ⟨rfl, rfl, rfl, rfl, rfl, rfl, rfl, rfl, rfl, rfl, rfl, rfl, rfl⟩
theorem z80 {p : za} {c j now : Int} (hc : 0 ≤ c ∧ c < 2) (hj : 0 ≤ j ∧ j < 2) (h : j ≠ c) : (ze6 p c now).Links.Told.get j = p.Links.Told.get j ∧ (ze6 p c now).Links.Fresh.get j = p.Links.Fresh.get j ∧ (ze6 p c now).Links.Done.get j = p.Links.Done.get j ∧ ziq (ze6 p c now).Links j = ziq p.Links j := by
  unfold ze6
  repeat' split
  · exact ⟨rfl, rfl, rfl, rfl⟩
  · exact ⟨rfl, rfl, rfl, rfl⟩
  · exact ⟨rfl, rfl, rfl, rfl⟩
  · unfold zapm ziq
    simp only [zan _ _ hc hj, if_neg h]
    exact ⟨trivial, trivial, trivial, trivial⟩
theorem zazu {p : za} {c : Int} (hs : zw 1 (-1) p.Set = true) : zw 0 (-1) (dOf p c) = true := by
  have hb : ∀ v : Nat, 0 ≤ fP p.Set v ∧ fP p.Set v ≤ 1125899906842624 := by
    intro v
    unfold fP
    have hm := zpm (by omega) hs (by omega)
    revert hm
    generalize p.Set = l
    intro hm
    induction l with
    | nil => simp [zb1]
    | cons q l ih =>
      simp only [zb1]
      split
      · have := hm q (List.mem_cons_self ..); omega
      · exact ih (fun q hq => hm q (List.mem_cons_of_mem _ hq))
  unfold dOf
  generalize fP p.Set = g at hb
  generalize fP (p.Links.Told.get c) = f
  have hm : ∀ q, q ∈ zru f g → ∃ v : Nat, v < 6 ∧ q = ⟨v, g v⟩ := by
    intro q hq
    rw [z1p] at hq
    simp only [List.mem_append, List.not_mem_nil, or_false] at hq
    have key : ∀ v : Nat, v < 6 → q ∈ z32 (v : Int) (g v) (f v) → ∃ v : Nat, v < 6 ∧ q = ⟨v, g v⟩ := by
      intro v hv h
      unfold z32 at h
      split at h
      · exact ⟨v, hv, List.mem_singleton.1 h⟩
      · cases h
    rcases hq with h | h | h | h | h | h
    · exact key 0 (by omega) h
    · exact key 1 (by omega) h
    · exact key 2 (by omega) h
    · exact key 3 (by omega) h
    · exact key 4 (by omega) h
    · exact key 5 (by omega) h
  refine z6s (fun q hq => ?_) ?_
  · obtain ⟨v, hv, rfl⟩ := hm q hq
    have := hb v
    refine ⟨by show (-1 : Int) < (v : Int); omega, by show (v : Int) ≤ 5; omega, this.1, this.2⟩
  · rw [z1p]
    have one : ∀ (v : Int) (x y : Int), (z32 v x y).Pairwise (fun a b => a.V < b.V) := by
      intro v x y; unfold z32; split
      · exact List.pairwise_singleton ..
      · exact .nil
    have mem : ∀ {v x y : Int} {q : Power}, q ∈ z32 v x y → q.V = v := by
      intro v x y q h; unfold z32 at h; split at h
      · rw [List.mem_singleton.1 h]
      · cases h
    refine List.pairwise_append.2 ⟨one _ _ _, List.pairwise_append.2 ⟨one _ _ _, List.pairwise_append.2 ⟨one _ _ _, List.pairwise_append.2 ⟨one _ _ _, List.pairwise_append.2 ⟨one _ _ _, List.pairwise_append.2 ⟨one _ _ _, .nil, ?_⟩, ?_⟩, ?_⟩, ?_⟩, ?_⟩, ?_⟩
    all_goals
      intro a ha b hb
      have k := mem ha
      first
      | (exfalso; cases hb; done)
      | (simp only [List.mem_append, List.not_mem_nil, or_false] at hb
         first
         | (rcases hb with h | h | h | h | h <;> have := mem h <;> omega)
         | (rcases hb with h | h | h | h <;> have := mem h <;> omega)
         | (rcases hb with h | h | h <;> have := mem h <;> omega)
         | (rcases hb with h | h <;> have := mem h <;> omega)
         | (have := mem hb; omega))
theorem zamh {p : za} {c : Int} (hs : zw 1 (-1) p.Set = true) (hd : zap (-1) (p.Links.Done.get c) = true) (hH : 1 ≤ p.Height ∧ p.Height ≤ 1099511627776) : zeb (pkOf p c) = 0 := by
  unfold zeb pkOf
  simp only []
  rw [if_neg (by omega), if_neg (by omega), if_neg (by omega), zazu hs, hd]
  rfl
theorem zapo {p : za} {c now : Int} (h : GoodX p) (hc : 0 ≤ c ∧ c < 2) (hH : 1 ≤ p.Height ∧ p.Height ≤ 1099511627776) (hn : 0 ≤ now) :
    (ze6 p c now = p ∧ (z3n p c ∨ p.Links.Closed.get c = true ∨ 400 ≤ (p.Links.Said.get c).length)) ∨
    (¬ z3n p c ∧ p.Links.Closed.get c = false ∧ (p.Links.Said.get c).length < 400 ∧ (ze6 p c now).Links = { p.Links with Told := p.Links.Told.set c p.Set, Fresh := p.Links.Fresh.set c false, Done := p.Links.Done.set c [], Said := p.Links.Said.set c (p.Links.Said.get c ++ [txt (zqr (pkOf p c))]), Due := p.Links.Due.set c (p.Links.Due.get c ++ [now + 40]) }) := by
  have lk := h.lk hc
  have hg := zamh (c := c) h.2.2.1 lk.done hH
  unfold ze6
  by_cases hq : z3n p c
  · rw [if_pos hq]; exact .inl ⟨rfl, .inl hq⟩
  · rw [if_neg hq, znu hg, if_neg (by simp)]
    have hu : ¬ (¬ ze5 (ziq p.Links c) ∨ now + 40 < 0) := by rintro (k | k); exact k lk.line; omega
    cases hcl : p.Links.Closed.get c with
    | true =>
      have : zqs p c now = (ziq p.Links c, 11) := by unfold zqs sayL; rw [if_neg hu, if_pos hcl]
      rw [this, if_pos (by simp)]; exact .inl ⟨rfl, .inr (.inl rfl)⟩
    | false =>
      by_cases h4 : 400 ≤ (p.Links.Said.get c).length
      · have : zqs p c now = (ziq p.Links c, 6) := by unfold zqs sayL; rw [if_neg hu, if_neg (by simp [hcl]), if_pos h4]
        rw [this, if_pos (by simp)]; exact .inl ⟨rfl, .inr (.inr h4)⟩
      · have e : zqs p c now = (⟨p.Links.Said.get c ++ [txt (zqr (pkOf p c))], p.Links.Due.get c ++ [now + 40], p.Links.Got.get c, p.Links.Closed.get c⟩, 0) := by
          unfold zqs sayL; rw [if_neg hu, if_neg (by simp [hcl]), if_neg h4, znu hg]
        rw [if_neg (by rw [e]; simp)]
        refine .inr ⟨hq, rfl, by omega, ?_⟩
        unfold zapm
        rw [e]
        simp only [zqn _ hc]
theorem z6t {p : za} {c now : Int} (h : GoodX p) (hc : 0 ≤ c ∧ c < 2) (hn : 0 ≤ now) : GoodX (ze6 p c now) := by
  unfold ze6
  repeat' split
  · exact h
  · exact h
  · exact h
  · have hlk : ∀ j : Int, 0 ≤ j ∧ j < 2 → LkX (zapm p c now) j := by
      intro j hj
      obtain ⟨a1, a2, a3, a4, a5, a6⟩ := h.lk hj
      by_cases e : j = c
      · subst e
        refine ⟨a1, a2, a3, ?_, ?_, ?_⟩
        · show zw 1 (-1) ((p.Links.Told.set j p.Set).get j) = true
          rw [zan _ _ hj hj, if_pos rfl]; exact h.2.2.1
        · show ze5 ⟨(p.Links.Said.set j (zqs p j now).1.Said).get j, (p.Links.Due.set j (zqs p j now).1.Due).get j, (p.Links.Got.set j (zqs p j now).1.Got).get j, (p.Links.Closed.set j (zqs p j now).1.Closed).get j⟩
          simp only [zan _ _ hj hj, if_pos]
          refine zaix a5 ?_
          have : 0 ≤ now := hn
          omega
        · show zap (-1) ((p.Links.Done.set j []).get j) = true
          rw [zan _ _ hj hj, if_pos rfl]; rfl
      · refine ⟨a1, a2, a3, ?_, ?_, ?_⟩
        · show zw 1 (-1) ((p.Links.Told.set c p.Set).get j) = true
          rw [zan _ _ hc hj, if_neg e]; exact a4
        · show ze5 ⟨(p.Links.Said.set c (zqs p c now).1.Said).get j, (p.Links.Due.set c (zqs p c now).1.Due).get j, (p.Links.Got.set c (zqs p c now).1.Got).get j, (p.Links.Closed.set c (zqs p c now).1.Closed).get j⟩
          simp only [zan _ _ hc hj, if_neg e]
          exact a5
        · show zap (-1) ((p.Links.Done.set c []).get j) = true
          rw [zan _ _ hc hj, if_neg e]; exact a6
    exact ⟨h.1, h.2.1, h.2.2.1, okLk_iff.2 (hlk 0 (by omega)), okLk_iff.2 (hlk 1 (by omega)), h.2.2.2.2.2⟩
theorem zapp {p : za} (hg : zad p = true) {now : Int} (hn : p.Time ≤ now ∧ now ≤ 1099511627776) : GoodX (zjh p now).1 := by
  unfold zjh
  rw [if_pos ⟨hg, hn⟩]
  have h0 := (goodPr_iff.1 hg).1.2.1
  exact z6t (z6t (zac8 hg hn) (by omega) (by omega)) (by omega) (by omega)
theorem zac9 {p : za} (hg : zad p = true) {c : Int} (hc : 0 ≤ c ∧ c < 2) : zad (zuq p c) = true := by
  obtain ⟨hx, hH⟩ := goodPr_iff.1 hg
  have hlk : ∀ j : Int, 0 ≤ j ∧ j < 2 → LkX (zuq p c) j := by
    intro j hj
    obtain ⟨a1, a2, a3, a4, a5, a6⟩ := hx.lk hj
    refine ⟨?_, a2, a3, a4, a5, ?_⟩
    · show ¬ ((p.Links.On.set c false).get j = true ∧ (p.Links.Gone.set c true).get j = true)
      rw [zan _ _ hc hj, zan _ _ hc hj]
      by_cases e : j = c
      · rw [if_pos e]; simp
      · rw [if_neg e, if_neg e]; exact a1
    · show zap (-1) ((p.Links.Done.set c []).get j) = true
      rw [zan _ _ hc hj]
      by_cases e : j = c
      · rw [if_pos e]; rfl
      · rw [if_neg e]; exact a6
  refine goodPr_iff.2 ⟨⟨z3l hx.1, hx.2.1, hx.2.2.1, okLk_iff.2 (hlk 0 (by omega)), okLk_iff.2 (hlk 1 (by omega)), List.all_eq_true.2 fun b hb => ask_iff.2 ?_⟩, hH⟩
  obtain ⟨h1, h2⟩ := List.mem_filter.1 hb
  obtain ⟨q1, q2, q3, q4⟩ := hx.ask h1
  refine ⟨q1, ?_, q3, q4⟩
  show (p.Links.On.set c false).get b.C = true
  rw [zan _ _ hc q1, if_neg (by simpa [z4l] using h2)]
  exact q2
end Go.Proofs.YtmakmlnfbdablaaGreat.Ab
namespace Go.Proofs.YtmakmlnfbdablaaGreat.Ab
open Go Go.RowKit
set_option linter.unusedVariables false
set_option linter.unusedSimpArgs false
theorem zaff {p : za} {now : Int} (h : zad p = true ∧ p.Time ≤ now ∧ now ≤ 1099511627776) : (zjh p now).2.2 = 0 := by unfold zjh; rw [if_pos h]
theorem z1z {p : za} {now : Int} (h : zad p = true ∧ p.Time ≤ now ∧ now ≤ 1099511627776) :
    (zjh p now).1.Height = p.Height + 1 ∧ (zjh p now).1.Time = now ∧ (zjh p now).1.Stake = (z7u (zgu p now).1.Stake now).1 ∧ (zjh p now).1.Set = setS (z7u (zgu p now).1.Stake now).1 ∧ (zjh p now).1.Queue = (zgu p now).2.2 ∧
    (zjh p now).1.Links.On = p.Links.On ∧ (zjh p now).1.Links.Gone = p.Links.Gone ∧ (zjh p now).1.Links.Base = p.Links.Base := by
  unfold zjh
  rw [if_pos h]
  obtain ⟨S, D, M, e, -⟩ := z4m h.1 now
  obtain ⟨a1, a2, a3, a4, a5, a6, a7, a8, a9, -⟩ := z1y (ze6 (zpj p now) 0 now) 1 now
  obtain ⟨b1, b2, b3, b4, b5, b6, b7, b8, b9, -⟩ := z1y (zpj p now) 0 now
  simp only [a1, a2, a3, a4, a6, a7, a8, a9, b1, b2, b3, b4, b6, b7, b8, b9]
  refine ⟨?_, ?_, rfl, rfl, rfl, ?_, ?_, ?_⟩
  all_goals
    unfold zpj
    rw [e]
    rfl
theorem zahf {s : Stake} (hg : GoodS s) (t : Int) : (z7u s t).1.Validators = s.Validators := by rw [zae4 hg]
theorem zafg {s : Stake} {v : Int} (hg : GoodS s) (hv : 0 ≤ v ∧ v < 6) (hd : s.Validators.Dead.get v = false) : (zbs s v 2).1.Validators.Dead.get v = true := by
  unfold zbs
  rw [if_neg (by rw [z2l hg (by omega) hv]; simp), if_neg (by omega), if_neg (by rw [hd]; simp), if_neg (by omega)]
  show (s.Validators.Dead.set v (2 == 2)).get v = true
  rw [zfd _ _ hv]; rfl
end Go.Proofs.YtmakmlnfbdablaaGreat.Ab
namespace Go.Proofs.YtmakmlnfbdablaaGreat.Ab
open Go Go.RowKit
set_option linter.unusedVariables false
set_option linter.unusedSimpArgs false
def zazv (on fresh : Bool) (told : List Power) (D : List Int) (l : zeg) (H now : Int) (set told' : List Power) (D' : List Int) (fresh' : Bool) (l' : zeg) : Prop :=
  (told' = told ∧ D' = D ∧ fresh' = fresh ∧ l' = l ∧ (on = false ∨ (zru (fP told) (fP set) = [] ∧ D = [] ∧ fresh = false) ∨ l.Closed = true ∨ 400 ≤ l.Said.length)) ∨
  (told' = set ∧ D' = [] ∧ fresh' = false ∧ on = true ∧ l.Closed = false ∧ l.Said.length < 400 ∧ ¬ (zru (fP told) (fP set) = [] ∧ D = [] ∧ fresh = false) ∧ zeb ⟨1, H, 0, 0, zru (fP told) (fP set), D⟩ = 0 ∧
    l' = ⟨l.Said ++ [txt (zqr ⟨1, H, 0, 0, zru (fP told) (fP set), D⟩)], l.Due ++ [now + 40], l.Got, l.Closed⟩)
theorem zada {p : za} {c now : Int} (h : GoodX p) (hc : 0 ≤ c ∧ c < 2) (hH : 1 ≤ p.Height ∧ p.Height ≤ 1099511627776) (hn : 0 ≤ now) :
    zazv (p.Links.On.get c) (p.Links.Fresh.get c) (p.Links.Told.get c) (p.Links.Done.get c) (ziq p.Links c) p.Height now p.Set ((ze6 p c now).Links.Told.get c) ((ze6 p c now).Links.Done.get c) ((ze6 p c now).Links.Fresh.get c) (ziq (ze6 p c now).Links c) := by
  rcases zapo h hc hH hn with ⟨e, h1⟩ | ⟨h1, h2, h3, e⟩
  · rw [e]
    refine .inl ⟨rfl, rfl, rfl, rfl, ?_⟩
    rcases h1 with (h1 | h1) | h1 | h1
    · exact .inl h1
    · exact .inr (.inl h1)
    · exact .inr (.inr (.inl h1))
    · exact .inr (.inr (.inr h1))
  · rw [e]
    have on : p.Links.On.get c = true := by
      cases o : p.Links.On.get c with
      | true => rfl
      | false => exact absurd (.inl o) h1
    refine .inr ⟨?_, ?_, ?_, on, h2, h3, fun k => h1 (.inr k), zamh h.2.2.1 (h.lk hc).done hH, ?_⟩
    · simp only [zan _ _ hc hc, if_pos]
    · simp only [zan _ _ hc hc, if_pos]
    · simp only [zan _ _ hc hc, if_pos]
    · unfold ziq
      simp only [zan _ _ hc hc, if_pos]
      rfl
theorem zami {p : za} (hg : zad p = true) (now : Int) : (zpj p now).Height = p.Height + 1 ∧ (zpj p now).Links.On = p.Links.On ∧ (zpj p now).Links.Fresh = p.Links.Fresh ∧ (zpj p now).Links.Told = p.Links.Told ∧ (∀ c, ziq (zpj p now).Links c = ziq p.Links c) := by
  obtain ⟨S, D, M, e, -⟩ := z4m hg now
  unfold zpj
  rw [e]
  exact ⟨rfl, rfl, rfl, rfl, fun _ => rfl⟩
theorem z4n {p : za} {now : Int} (h : zad p = true ∧ p.Time ≤ now ∧ now ≤ 1099511627776) {c : Int} (hc : 0 ≤ c ∧ c < 2) :
    ∃ D, D = (zpj p now).Links.Done.get c ∧ zazv (p.Links.On.get c) (p.Links.Fresh.get c) (p.Links.Told.get c) D (ziq p.Links c) (zjh p now).1.Height now (zjh p now).1.Set ((zjh p now).1.Links.Told.get c) ((zjh p now).1.Links.Done.get c) ((zjh p now).1.Links.Fresh.get c) (ziq (zjh p now).1.Links c) := by
  obtain ⟨hx, hH⟩ := goodPr_iff.1 h.1
  have hn : 0 ≤ now := by have := hx.2.1.2.1; omega
  have h0 := hx.2.1.1
  have g0 := zac8 h.1 h.2
  have g1 := z6t (c := 0) g0 (by omega) hn
  obtain ⟨p1, p2, p3, p4, p5⟩ := zami h.1 now
  obtain ⟨a1, a2, a3, a4, a5, a6, a7, a8, a9, -⟩ := z1y (ze6 (zpj p now) 0 now) 1 now
  obtain ⟨b1, b2, b3, b4, b5, b6, b7, b8, b9, -⟩ := z1y (zpj p now) 0 now
  refine ⟨_, rfl, ?_⟩
  unfold zjh
  rw [if_pos h]
  simp only []
  rw [a1, a4, b1, b4, ← p2, ← p3, ← p4, ← p5 c]
  rcases (show c = 0 ∨ c = 1 by omega) with rfl | rfl
  · obtain ⟨t1, t2, t3, t4⟩ := z80 (p := ze6 (zpj p now) 0 now) (c := 1) (j := 0) (now := now) (by omega) (by omega) (by omega)
    rw [t1, t2, t3, t4]
    exact zada g0 hc (by omega) hn
  · obtain ⟨t1, t2, t3, t4⟩ := z80 (p := zpj p now) (c := 0) (j := 1) (now := now) (by omega) (by omega) (by omega)
    have := zada (c := 1) (now := now) g1 hc (by rw [b1]; omega) hn
    rw [b7, t1, t2, t3, t4, b1, b4] at this
    exact this
theorem z3o (s : Stake) : zef (fP (setS s)) = setS s := by
  have nn : ∀ v, 0 ≤ topF (cutF (nvF s)) v ∨ True := fun _ => .inr trivial
  show zef (fP (zef (topF (nvF s)))) = zef (topF (nvF s))
  have key : ∀ f : Nat → Int, zef (fP (zef f)) = zef f := by
    intro f
    have e : zef f = zef (fun v => if 0 < f v then f v else 0) := by
      rw [zuf, zuf]
      have : ∀ (w : Int) (n : Int), ztk w n = ztk w (if 0 < n then n else 0) := by
        intro w n
        unfold ztk
        by_cases h : 0 < n
        · rw [if_pos h, if_pos h, if_pos h]
        · rw [if_neg h, if_neg h]; rfl
      rw [this _ (f 0), this _ (f 1), this _ (f 2), this _ (f 3), this _ (f 4), this _ (f 5)]
    rw [e]
    exact zug fun v hv => zaep (fun v => by show 0 ≤ if 0 < f v then f v else 0; split <;> omega) hv
  exact key _
theorem zahg {told set : List Power} (hs : zef (fP set) = set) : zok told (zru (fP told) (fP set)) = set := by
  unfold zok
  have : ∀ v : Nat, v < 6 → zw9 (zru (fP told) (fP set)) v (zb1 told v) = fP set v := fun v hv => zah6 (f := fP told) (g := fP set) hv
  rw [zug this, hs]
end Go.Proofs.YtmakmlnfbdablaaGreat.Ab
namespace Go.Proofs.YtmakmlnfbdablaaGreat.Ab
open Go Go.RowKit
set_option linter.unusedVariables false
set_option linter.unusedSimpArgs false
theorem zmf {C : zcw} {i j : Int} (hi : 0 ≤ i ∧ i < 2) (hj : 0 ≤ j ∧ j < 2) (c : zb) : zc (znz C i c) j = if j = i then c else zc C j := by
  unfold zc znz
  simp only [zan _ _ hi hj]
  by_cases e : j = i
  · simp only [if_pos e]
  · simp only [if_neg e]
theorem zfe {C : zcw} {i : Int} (hi : 0 ≤ i ∧ i < 2) (c : zb) : zc (znz C i c) i = c := by rw [zmf hi hi, if_pos rfl]
theorem zat {C : zcw} {i j : Int} (hi : 0 ≤ i ∧ i < 2) (hj : 0 ≤ j ∧ j < 2) (h : j ≠ i) (c : zb) : zc (znz C i c) j = zc C j := by rw [zmf hi hj, if_neg h]
theorem zadb {C : zcw} {i : Int} (hi : 0 ≤ i ∧ i < 2) : znz C i (zc C i) = C := by
  unfold zc znz
  simp only [zqn _ hi]
def z3p (L : Links) (i : Int) (l : zeg) : Links := { L with Said := L.Said.set i l.Said, Due := L.Due.set i l.Due, Got := L.Got.set i l.Got, Closed := L.Closed.set i l.Closed }
def z2p (L : Links) (i : Int) (h : z7w) : Links := { L with SHeight := L.SHeight.set i h.Height, STime := L.STime.set i h.Time, SSaid := L.SSaid.set i h.Said, SGot := L.SGot.set i h.Got }
theorem ztj {L : Links} {i j : Int} (hi : 0 ≤ i ∧ i < 2) (hj : 0 ≤ j ∧ j < 2) (l : zeg) : zh (z3p L i l) j = if j = i then { zh L j with Out := l } else zh L j := by
  unfold zh z3p
  simp only [zan _ _ hi hj]
  by_cases e : j = i
  · simp only [if_pos e]
  · simp only [if_neg e]
theorem z6u {L : Links} {i j : Int} (hi : 0 ≤ i ∧ i < 2) (hj : 0 ≤ j ∧ j < 2) (h : z7w) : zh (z2p L i h) j = if j = i then { zh L j with Seen := h } else zh L j := by
  unfold zh z2p
  simp only [zan _ _ hi hj]
  by_cases e : j = i
  · simp only [if_pos e]
  · simp only [if_neg e]
theorem zz7 (L : Links) (i : Int) : ziq L i = (zh L i).Out := rfl
def noW (w : Wld) (e : Int) : Wld × Reply := (w, ⟨e, 0⟩)
def zamj (h : zx4) (p : za) (C : zcw) : zx4 :=
  { h with PHeight := ⟨p.Height, p.Height⟩, PTime := ⟨p.Time, p.Time⟩, PSaid := ⟨((p.Links.Said.x0.length : Nat) : Int), ((p.Links.Said.x1.length : Nat) : Int)⟩, PGot := C.Got }
def zazw (h : zx4) (i : Int) (c : zb) (got : Int) : zx4 :=
  { h with CHeight := h.CHeight.set i c.Height, CTime := h.CTime.set i c.Time, CSaid := h.CSaid.set i ((c.Out.Said.length : Nat) : Int), CGot := h.CGot.set i got }
def zaq4 (h : zx4) (i : Int) : zx4 :=
  ⟨h.PHeight.set i 0, h.PTime.set i 0, h.PSaid.set i 0, h.PGot.set i 0, h.CHeight.set i 0, h.CTime.set i 0, h.CSaid.set i 0, h.CGot.set i 0⟩
def zaiy (h : zx4) (i : Int) : z7w := ⟨h.PHeight.get i, h.PTime.get i, h.PSaid.get i, h.PGot.get i⟩
def zapq (h : zx4) (i : Int) : z7w := ⟨h.CHeight.get i, h.CTime.get i, h.CSaid.get i, h.CGot.get i⟩
def zlq (w : Wld) : Wld × Reply :=
  if (zjh w.p w.clock).2.2 ≠ 0 then noW w (zjh w.p w.clock).2.2
  else ({ w with p := (zjh w.p w.clock).1, heads := zamj w.heads (zjh w.p w.clock).1 w.consumers }, ⟨0, (((zjh w.p w.clock).2.1.length : Nat) : Int)⟩)
def z3q (w : Wld) (i : Int) : Wld × Reply :=
  if (zep w.p i).2 ≠ 0 then noW w (zep w.p i).2
  else ({ w with p := (zep w.p i).1, consumers := znz w.consumers i (zrw (zep w.p i).1.Set (zep w.p i).1.Height w.clock), heads := zaq4 w.heads i }, ⟨0, (zep w.p i).1.Height⟩)
def zx1 (w : Wld) (i : Int) : Wld × Reply :=
  if (z8t w.clock (zc w.consumers i)).2 ≠ 0 then noW w (z8t w.clock (zc w.consumers i)).2
  else ({ w with consumers := znz w.consumers i (z8t w.clock (zc w.consumers i)).1, heads := zazw w.heads i (z8t w.clock (zc w.consumers i)).1 (w.p.Links.Got.get i) }, ⟨0, 0⟩)
def z81 (w : Wld) (i : Int) (back : Bool) : Wld × Reply :=
  if back = true then ({ w with p := { w.p with Links := z2p w.p.Links i (zapq w.heads i) } }, ⟨0, 0⟩)
  else ({ w with consumers := znz w.consumers i { zc w.consumers i with Seen := zaiy w.heads i } }, ⟨0, 0⟩)
def zamk (n : Nat) : Packet := ⟨3, 1, 0, IntKind.i64.wrap (1 + (n : Int)), [], []⟩
def zaml (l : zeg) : ByteArray := if l.Got < ((l.Said.length : Nat) : Int) then l.Said.getD l.Got.toNat .empty else (⟨#[]⟩ : ByteArray)
def zlr (l : zeg) (forged : Bool) : ByteArray := if forged = true then (zhq (zamk (zaml l).size)).1 else zaml l
def zej (w : Wld) (i : Int) (back : Bool) : zeg := if back = true then (zc w.consumers i).Out else (zh w.p.Links i).Out
def zaa7 (w : Wld) (i : Int) (back : Bool) : Int := if back = true then w.p.Links.SSaid.get i else w.consumers.SSaid.get i
def zoa (w : Wld) (d : Deed) : zeg × Int := zph (zej w d.C d.Back) (IntKind.i64.wrap ((zej w d.C d.Back).Got + 1)) (zlr (zej w d.C d.Back) d.Forged) (zaa7 w d.C d.Back) w.clock
def zsa (w : Wld) (d : Deed) : Wld × Reply :=
  if (zoa w d).2 ≠ 0 then noW w (zoa w d).2
  else if d.Back = true then
    (if (zol w.p d.C (zlr (zej w d.C d.Back) d.Forged).data.toList).2 ≠ 0 then noW w (zol w.p d.C (zlr (zej w d.C d.Back) d.Forged).data.toList).2
     else ({ w with p := (zol w.p d.C (zlr (zej w d.C d.Back) d.Forged).data.toList).1, consumers := znz w.consumers d.C { zc w.consumers d.C with Out := (zoa w d).1 } }, ⟨0, (zoa w d).1.Got⟩))
  else (if (zxg (zc w.consumers d.C) (zlr (zej w d.C d.Back) d.Forged).data.toList).2 ≠ 0 then noW w (zxg (zc w.consumers d.C) (zlr (zej w d.C d.Back) d.Forged).data.toList).2
     else ({ w with p := { w.p with Links := z3p w.p.Links d.C (zoa w d).1 }, consumers := znz w.consumers d.C (zxg (zc w.consumers d.C) (zlr (zej w d.C d.Back) d.Forged).data.toList).1 }, ⟨0, (zoa w d).1.Got⟩))
def zaa8 (w : Wld) (d : Deed) : zeg × Int := if d.Back = true then z2f (zc w.consumers d.C).Out d.N (w.consumers.STime.get d.C) (w.consumers.SGot.get d.C) else z2f (zh w.p.Links d.C).Out d.N (w.p.Links.STime.get d.C) (w.p.Links.SGot.get d.C)
def zxi (w : Wld) (d : Deed) : Wld × Reply :=
  if (zaa8 w d).2 ≠ 0 then noW w (zaa8 w d).2 else ({ w with p := zur w.p d.C, consumers := znz w.consumers d.C (zz5 (zc w.consumers d.C)) }, ⟨0, 0⟩)
def putW (w : Wld) (i : Int) (r : zb × Int) : Wld × Reply := if r.2 ≠ 0 then noW w r.2 else ({ w with consumers := znz w.consumers i r.1 }, ⟨0, 0⟩)
def zsb (w : Wld) (d : Deed) : Wld × Reply :=
  if d.Kind < 4 ∨ 12 < d.Kind then noW w 3 else if d.C < 0 ∨ 2 ≤ d.C then noW w 4 else if d.Kind ≠ 4 ∧ w.consumers.On.get d.C = false then noW w 4
  else if d.Kind = 4 then z3q w d.C else if d.Kind = 7 then zx1 w d.C else if d.Kind = 8 then z81 w d.C d.Back else if d.Kind = 9 then zsa w d else if d.Kind = 10 then zxi w d
  else if d.Kind = 11 then putW w d.C (z6k (zc w.consumers d.C) d.V w.clock) else if d.Kind = 12 then putW w d.C (zsm (zc w.consumers d.C) d.V d.N w.clock) else (w, ⟨0, 0⟩)
def zsn (w : Wld) (r : za × Int) : Wld × Reply := if r.2 ≠ 0 then noW w r.2 else ({ w with p := r.1 }, ⟨0, 0⟩)
def zahh (p : za) (v : Int) : za × Int := ({ p with Stake := (zbs p.Stake v 1).1 }, (zbs p.Stake v 1).2)
def zaiz (w : Wld) (n : Int) : Wld × Reply := if n < 1 ∨ 1099511627736 - w.clock < n then noW w 2 else ({ w with clock := w.clock + n }, ⟨0, w.clock + n⟩)
def actW (w : Wld) (d : Deed) : Wld × Reply :=
  if d.Kind = 1 then zsn w (zdq w.p d.D d.V d.N) else if d.Kind = 2 then zsn w (zdg w.p d.D d.V d.N w.clock) else if d.Kind = 3 then zsn w (zahh w.p d.V) else if d.Kind = 13 then zsn w (zxh w.p d.V d.N)
  else if d.Kind = 5 then zaiz w d.N else if d.Kind = 6 then zlq w else zsb w d
def zba (w : Wld) : Wld := { w with deeds := w.deeds + 1 }
def doW (w : Wld) (d : Deed) : Wld × Reply := if 600 ≤ w.deeds then noW w 6 else actW (zba w) d
def newW : Wld := ⟨0, zac1, default, default, 0⟩
def Pk1 (s : ByteArray) : Prop := ∃ q, zeb q = 0 ∧ q.Kind = 1 ∧ s = txt (zqr q)
def PkB (s : ByteArray) : Prop := ∃ q, zeb q = 0 ∧ q.Kind ≠ 1 ∧ s = txt (zqr q)
structure ConsW (w : Wld) (i : Int) : Prop where
  good : zki (zc w.consumers i) = true
  height : (zc w.consumers i).Height ≤ w.deeds
  time : (zc w.consumers i).Time ≤ w.clock
  size : (((zc w.consumers i).Pending.length + (zc w.consumers i).Ripes.length : Nat) : Int) ≤ w.deeds
  on : (zc w.consumers i).On = w.p.Links.On.get i
  gone : (zc w.consumers i).Gone = w.p.Links.Gone.get i
  told : ∀ s, s ∈ (zh w.p.Links i).Out.Said → Pk1 s
  said : ∀ s, s ∈ (zc w.consumers i).Out.Said → PkB s
  fresh : w.p.Links.On.get i = false → w.p.Links.Gone.get i = false → zc w.consumers i = default ∧ (zh w.p.Links i).Out.Said = []
structure OkW (w : Wld) : Prop where
  d0 : 0 ≤ w.deeds
  d1 : w.deeds ≤ 600
  t0 : 0 ≤ w.clock
  t1 : w.clock ≤ 1099511627736
  p : GoodX w.p
  ph : w.p.Height ≤ w.deeds
  pt : w.p.Time ≤ w.clock
  pq : ((w.p.Queue.length : Nat) : Int) ≤ w.deeds
  c : ∀ i : Int, 0 ≤ i ∧ i < 2 → ConsW w i
theorem OkW.pr {w : Wld} (h : OkW w) : zad w.p = true := goodPr_iff.2 ⟨h.p, by have := h.ph; have := h.d1; omega⟩
theorem OkW.fit {w : Wld} (h : OkW w) : FitPr 140737488351232 w.p := fitX h.p (by omega) (by have := h.pq; have := h.d1; omega)
theorem zaud {c : zb} (h : zki c = true) {n : Nat} (hn : n ≤ 1000000) (hs : c.Pending.length + c.Ripes.length ≤ n) : FitC 140737488351232 c := by
  obtain ⟨g1, g2, g3, g4, g5⟩ := zcr h
  have e1 := zd2 g3 (by omega)
  have e2 : c.Out.Said.length = c.Out.Due.length := g2.1
  have e3 : c.Out.Said.length ≤ 400 := g2.2.1
  exact ⟨by omega, by omega, by omega, by omega, by omega, fun p hp => by have := z6r (z6j g5 p hp).1; omega⟩
theorem ConsW.fit {w : Wld} {i : Int} (h : ConsW w i) (hd : w.deeds ≤ 600) : FitC 140737488351232 (zc w.consumers i) :=
  zaud h.good (n := 600) (by omega) (by have := h.size; omega)
structure SameL (p q : za) (i : Int) : Prop where
  on : p.Links.On.get i = q.Links.On.get i
  gone : p.Links.Gone.get i = q.Links.Gone.get i
  said : (zh p.Links i).Out.Said = (zh q.Links i).Out.Said
theorem SameL.refl (p : za) (i : Int) : SameL p p i := ⟨rfl, rfl, rfl⟩
theorem SameL.of {p q : za} {i : Int} (h : zh p.Links i = zh q.Links i) : SameL p q i := ⟨congrArg Link.On h, congrArg Link.Gone h, by rw [h]⟩
theorem ConsW.more {w w' : Wld} {i : Int} (h : ConsW w i) (hc : zc w'.consumers i = zc w.consumers i) (hl : SameL w'.p w.p i) (hd : w.deeds ≤ w'.deeds) (ht : w.clock ≤ w'.clock) : ConsW w' i := by
  obtain ⟨e1, e2, e3⟩ := hl
  obtain ⟨a1, a2, a3, a4, a5, a6, a7, a8, a9⟩ := h
  refine ⟨by rw [hc]; exact a1, by rw [hc]; omega, by rw [hc]; omega, by rw [hc]; omega, by rw [hc, e1]; exact a5, by rw [hc, e2]; exact a6, by rw [e3]; exact a7, by rw [hc]; exact a8, ?_⟩
  rw [e1, e2, hc, e3]; exact a9
theorem zls {w : Wld} (h : OkW w) (hd : w.deeds < 600) : OkW (zba w) :=
  ⟨by have := h.d0; show 0 ≤ w.deeds + 1; omega, by show w.deeds + 1 ≤ 600; omega, h.t0, h.t1, h.p, by have := h.ph; show w.p.Height ≤ w.deeds + 1; omega, h.pt, by have := h.pq; show ((w.p.Queue.length : Nat) : Int) ≤ w.deeds + 1; omega,
    fun i hi => (h.c i hi).more rfl (.refl _ _) (by show w.deeds ≤ w.deeds + 1; omega) (by exact Int.le_refl _)⟩
theorem zaa9 : OkW newW := by
  have g : GoodX zac1 := (goodPr_iff.1 z8x).1
  refine ⟨by decide, by decide, by decide, by decide, g, by decide, by decide, by decide, fun i hi => ?_⟩
  have hc : zc newW.consumers i = default := by rcases (show i = 0 ∨ i = 1 by omega) with rfl | rfl <;> rfl
  have hl : zh newW.p.Links i = default := by rcases (show i = 0 ∨ i = 1 by omega) with rfl | rfl <;> rfl
  have e1 : newW.p.Links.On.get i = false := congrArg Link.On hl
  have e2 : newW.p.Links.Gone.get i = false := congrArg Link.Gone hl
  refine ⟨by rw [hc]; decide, by rw [hc]; decide, by rw [hc]; decide, by rw [hc]; decide, by rw [hc, e1]; rfl, by rw [hc, e2]; rfl, (by rw [hl]; intro s hs; cases hs), (by rw [hc]; intro s hs; cases hs), fun _ _ => ⟨hc, by rw [hl]; rfl⟩⟩
theorem zaba {w : Wld} (h : OkW w) {p : za} (hp : GoodX p) (hH : p.Height = w.p.Height) (hT : p.Time = w.p.Time) (hQ : p.Queue.length = w.p.Queue.length) (hl : ∀ i : Int, 0 ≤ i ∧ i < 2 → SameL p w.p i) : OkW { w with p := p } :=
  ⟨h.d0, h.d1, h.t0, h.t1, hp, by rw [hH]; exact h.ph, by rw [hT]; exact h.pt, by rw [hQ]; exact h.pq, fun i hi => (h.c i hi).more rfl (hl i hi) (Int.le_refl _) (Int.le_refl _)⟩
theorem z6v {p : za} (h : GoodX p) {s : Stake} (hs : GoodS s) : GoodX { p with Stake := s } := ⟨hs, h.2.1, h.2.2.1, h.2.2.2.1, h.2.2.2.2.1, h.2.2.2.2.2⟩
theorem z6w {w : Wld} (h : OkW w) {s : Stake} (hs : GoodS s) : OkW { w with p := { w.p with Stake := s } } := zaba h (z6v h.p hs) rfl rfl rfl fun _ _ => ⟨rfl, rfl, rfl⟩
theorem z10 {w : Wld} (h : OkW w) {r : za × Int} (hr : r.2 = 0 → OkW { w with p := r.1 }) : OkW (zsn w r).1 := by
  unfold zsn
  by_cases e : r.2 = 0
  · rw [if_neg (by simpa using e)]; exact hr e
  · rw [if_pos e]; exact h
theorem zadc {w : Wld} (h : OkW w) (d v n : Int) : OkW (zsn w (zdq w.p d v n)).1 := by
  refine z10 h fun h0 => ?_
  unfold zdq at h0 ⊢
  rw [if_pos h.pr] at h0 ⊢
  by_cases e : (zbr w.p.Stake d v n).2 = 0
  · rw [if_neg (by simpa using e)]; exact z6w h (zaa0 e)
  · rw [if_pos e] at h0; exact absurd h0 e
theorem zafh {p : za} (h : GoodX p) : GoodX { p with Links := zac2 p.Links } := by
  have hlk : ∀ j : Int, 0 ≤ j ∧ j < 2 → LkX { p with Links := zac2 p.Links } j := by
    intro j hj
    obtain ⟨a1, a2, a3, a4, a5, a6⟩ := h.lk hj
    exact ⟨a1, a2, a3, a4, a5, a6⟩
  exact ⟨h.1, h.2.1, h.2.2.1, okLk_iff.2 (hlk 0 (by omega)), okLk_iff.2 (hlk 1 (by omega)), h.2.2.2.2.2⟩
theorem z7v {w : Wld} (h : OkW w) (d v k : Int) : OkW (zsn w (zdg w.p d v k w.clock)).1 := by
  refine z10 h fun h0 => ?_
  unfold zdg at h0 ⊢
  have ht : zad w.p = true ∧ 0 ≤ w.clock ∧ w.clock ≤ 1099511627776 := ⟨h.pr, h.t0, by have := h.t1; omega⟩
  rw [if_pos ht] at h0 ⊢
  by_cases e : (zau w.p.Stake d v k (z6n w.p w.clock)).2 = 0
  · rw [if_neg (by simpa using e)]
    have g := z6g e
    exact zaba h (z6v (zafh h.p) g) rfl rfl rfl fun _ _ => ⟨rfl, rfl, rfl⟩
  · rw [if_pos e] at h0; exact absurd h0 e
theorem zai0 {w : Wld} (h : OkW w) (v : Int) : OkW (zsn w (zahh w.p v)).1 :=
  z10 h fun _ => z6w h (zup h.p.1 v (.inr (.inl rfl)))
theorem zapr {w : Wld} (h : OkW w) (v n : Int) : OkW (zsn w (zxh w.p v n)).1 := by
  refine z10 h fun h0 => ?_
  unfold zxh at h0 ⊢
  rw [if_neg (by rw [h.pr]; simp)] at h0 ⊢
  by_cases h1 : 0 ≤ v ∧ v < 6
  · rw [if_pos h1] at h0 ⊢
    by_cases h2 : 1 ≤ n ∧ n ≤ w.p.Height
    · rw [if_pos h2] at h0 ⊢
      by_cases h3 : w.p.Stake.Validators.Dead.get v = true
      · rw [if_pos h3] at h0; cases h0
      · rw [if_neg h3]; exact z6w h (zup (zrz h.p.1 v n 50) v (.inr (.inr rfl)))
    · rw [if_neg h2] at h0; cases h0
  · rw [if_neg h1] at h0; cases h0
theorem zaps {w : Wld} (h : OkW w) (n : Int) : OkW (zaiz w n).1 := by
  unfold zaiz
  split
  · exact h
  · rename_i hn
    have := h.t0; have := h.t1; have := h.pt
    exact ⟨h.d0, h.d1, by show 0 ≤ w.clock + n; omega, by show w.clock + n ≤ _; omega, h.p, h.ph, by show w.p.Time ≤ w.clock + n; omega, h.pq, fun i hi => (h.c i hi).more rfl (.refl _ _) (Int.le_refl _) (by show w.clock ≤ w.clock + n; omega)⟩
end Go.Proofs.YtmakmlnfbdablaaGreat.Ab
namespace Go.Proofs.YtmakmlnfbdablaaGreat.Ab
open Go Go.RowKit
set_option linter.unusedVariables false
set_option linter.unusedSimpArgs false
theorem zahi {M : Int} (hM : 0 ≤ M) : ∀ {l : List Power}, (∀ q, q ∈ l → q.N ≤ M) → ∀ v, zb1 l v ≤ M
  | [], _, v => by simpa [zb1] using hM
  | q :: l, h, v => by
    simp only [zb1]
    split
    · exact h q (List.mem_cons_self ..)
    · exact zahi hM (fun q hq => h q (List.mem_cons_of_mem _ hq)) v
theorem zahj {M : Int} : ∀ {d : List Power} {v n : Int}, n ≤ M → (∀ q, q ∈ d → q.N ≤ M) → zw9 d v n ≤ M
  | [], v, n, hn, _ => hn
  | q :: d, v, n, hn, h => by
    show zw9 d v (if q.V = v then q.N else n) ≤ M
    refine zahj ?_ (fun q hq => h q (List.mem_cons_of_mem _ hq))
    split
    · exact h q (List.mem_cons_self ..)
    · exact hn
theorem zapt {a d : List Power} (ha : zw 1 (-1) a = true) (hd : zw 0 (-1) d = true) : zw 1 (-1) (zok a d) = true :=
  zapi fun v => zahj (zahi (by omega) (fun q hq => (zpm (by omega) ha (by omega) q hq).2.2.2) _) (fun q hq => (zpm (by omega) hd (by omega) q hq).2.2.2)
structure zai1 (c : zb) : Prop where
  set : zw 1 (-1) c.Set = true
  ripes : c.Ripes.all znx = true
  id0 : 0 ≤ c.Id
  id1 : c.Id ≤ 1099511627776
theorem zamm {now : Int} (hn : 0 ≤ now ∧ now ≤ 1099511627776) {c : zb} (h : zai1 c) {p : Packet} (hp : zny p = true) : zai1 (zqm now c p) := by
  rw [zxx]
  obtain ⟨g1, g2, _⟩ := z6j (l := [p]) (by simp [hp]) p (by simp)
  have f := zgz g1
  refine ⟨zapt h.set f.2.2.2.2.2.2.2.2.1, ?_, by show 0 ≤ p.Id; omega, f.2.2.2.1⟩
  show (c.Ripes ++ [(⟨p.Id, IntKind.i64.wrap (now + 15)⟩ : Ripe)]).all znx = true
  rw [List.all_append, h.ripes]
  have : znx (⟨p.Id, IntKind.i64.wrap (now + 15)⟩ : Ripe) = true := by
    unfold znx
    simp only [Bool.and_eq_true, decide_eq_true_eq]
    rw [zn (by omega) (by omega)]
    exact ⟨⟨f.2.2.1, f.2.2.2.1⟩, by omega⟩
  simp [this]
theorem z82 {now : Int} (hn : 0 ≤ now ∧ now ≤ 1099511627776) : ∀ {l : List Packet} {c : zb}, zai1 c → l.all zny = true → zai1 (l.foldl (zqm now) c)
  | [], _, h, _ => h
  | p :: l, c, h, hl => by
    rw [List.all_cons, Bool.and_eq_true] at hl
    exact z82 (c := zqm now c p) hn (zamm hn h hl.1) hl.2
def matP (r : Ripe) : Packet := ⟨2, r.Id, 0, 0, [], []⟩
def matT (r : Ripe) : ByteArray := txt (zqr (matP r))
theorem zadd {r : Ripe} (h : znx r = true) : zeb (matP r) = 0 := by
  unfold znx at h
  simp only [Bool.and_eq_true, decide_eq_true_eq] at h
  exact zal3 h.1.1 h.1.2
theorem z6x {now : Int} (hn : 0 ≤ now ∧ now ≤ 1099511627776) : ∀ (rs : List Ripe) (c : zb), c.Ripes = rs → ze5 c.Out → rs.all znx = true →
    ∃ k, k ≤ rs.length ∧ zrx now rs c = { c with Ripes := rs.drop k, Out := { c.Out with Said := c.Out.Said ++ (rs.take k).map matT, Due := c.Out.Due ++ List.replicate k (now + 40) } } ∧
      (∀ r, r ∈ rs.take k → r.Due ≤ now) ∧ (k = rs.length ∨ (∃ r, rs[k]? = some r ∧ now < r.Due) ∨ c.Out.Closed = true ∨ 400 ≤ c.Out.Said.length + k) ∧ c.Out.Said.length + k ≤ 400
  | [], c, hr, hg, _ => ⟨0, Nat.le_refl _, by
      show c = { c with Ripes := [], Out := { c.Out with Said := c.Out.Said ++ [], Due := c.Out.Due ++ [] } }
      rw [List.append_nil, List.append_nil, ← hr], by simp, .inl rfl, by have : c.Out.Said.length ≤ 400 := hg.2.1; omega⟩
  | r :: rs, c, hr, hg, ha => by
    have h400 : c.Out.Said.length ≤ 400 := hg.2.1
    rw [List.all_cons, Bool.and_eq_true] at ha
    have hstop : (r.Due ≤ now → c.Out.Closed = true ∨ 400 ≤ c.Out.Said.length) → zrx now (r :: rs) c = c → ∃ k, k ≤ (r :: rs).length ∧ zrx now (r :: rs) c = { c with Ripes := (r :: rs).drop k, Out := { c.Out with Said := c.Out.Said ++ ((r :: rs).take k).map matT, Due := c.Out.Due ++ List.replicate k (now + 40) } } ∧
        (∀ q, q ∈ (r :: rs).take k → q.Due ≤ now) ∧ (k = (r :: rs).length ∨ (∃ q, (r :: rs)[k]? = some q ∧ now < q.Due) ∨ c.Out.Closed = true ∨ 400 ≤ c.Out.Said.length + k) ∧ c.Out.Said.length + k ≤ 400 := by
      intro h1 h2
      refine ⟨0, Nat.zero_le _, by rw [h2]; simp [← hr], by simp, ?_, by omega⟩
      by_cases hd : r.Due ≤ now
      · rcases h1 hd with k | k
        · exact .inr (.inr (.inl k))
        · exact .inr (.inr (.inr (by omega)))
      · exact .inr (.inl ⟨r, rfl, by omega⟩)
    by_cases hd : r.Due ≤ now
    · by_cases hc : c.Out.Closed = true ∨ 400 ≤ c.Out.Said.length
      · refine hstop (fun _ => hc) ?_
        have e0 : (zvo ⟨2, r.Id, 0, 0, [], []⟩ now c).1 ≠ 0 := by
          intro e
          obtain ⟨_, k, _⟩ := zal2 e
          obtain ⟨_, _, k1, k2, _⟩ := zae6 k
          rcases hc with hc | hc
          · rw [hc] at k1; cases k1
          · omega
        unfold zrx
        rw [if_pos hd, if_pos e0]
      · have hc1 : c.Out.Closed = false := Bool.eq_false_iff.2 (fun h => hc (.inl h))
        have hc2 : c.Out.Said.length < 400 := by have : ¬ 400 ≤ c.Out.Said.length := fun h => hc (.inr h); omega
        have hw : IntKind.i64.wrap (now + 40) = now + 40 := zn (by omega) (by omega)
        have hs := zapg (p := matP r) (now := now) (c := c) (zadd ha.1) hg (by rw [hw]; omega) hc1 hc2
        rw [hw] at hs
        obtain ⟨c', hc'⟩ : ∃ c' : zb, c' = { c with Ripes := rs, Out := { c.Out with Said := c.Out.Said ++ [matT r], Due := c.Out.Due ++ [now + 40] } } := ⟨_, rfl⟩
        have hstep : zrx now (r :: rs) c = zrx now rs c' := by
          have hs' : zvo ⟨2, r.Id, 0, 0, [], []⟩ now c = _ := hs
          rw [zrx, if_pos hd, hs', if_neg (by simp), hc']
          rfl
        have hg' : ze5 c'.Out := by rw [hc']; exact z8v hg (by omega) hc2
        obtain ⟨k, k1, k2, k3, k4, k5⟩ := z6x hn rs c' (by rw [hc']) hg' ha.2
        have l1 : c'.Out.Said.length = c.Out.Said.length + 1 := by rw [hc']; simp
        refine ⟨k + 1, by simp only [List.length_cons]; omega, ?_, ?_, ?_, by omega⟩
        · rw [hstep, k2, hc']
          simp only [List.drop_succ_cons, List.take_succ_cons, List.map_cons, List.append_assoc, List.singleton_append, List.replicate_succ]
        · intro q hq
          rw [List.take_succ_cons] at hq
          rcases List.mem_cons.1 hq with rfl | hq
          · exact hd
          · exact k3 q hq
        · rcases k4 with k4 | k4 | k4 | k4
          · exact .inl (by simp only [List.length_cons]; omega)
          · exact .inr (.inl (by simpa using k4))
          · exact .inr (.inr (.inl (by rw [hc'] at k4; exact k4)))
          · exact .inr (.inr (.inr (by omega)))
    · exact hstop (fun h => absurd h hd) (by unfold zrx; rw [if_neg hd])
theorem zai2 {l : zeg} (h : ze5 l) {t : List ByteArray} {n u : Int} (hu : 0 ≤ u) (hl : l.Said.length + t.length ≤ 400) : ze5 { l with Said := l.Said ++ t, Due := l.Due ++ List.replicate t.length u } := by
  obtain ⟨g1, g2, g3, g4, g5⟩ := h
  refine ⟨by simp [g1], by simp only [List.length_append]; omega, g3, by simp only [List.length_append]; omega, ?_⟩
  simp only [List.any_append, g5, Bool.false_or]
  rw [List.any_eq_false]
  intro x hx
  rw [List.eq_of_mem_replicate hx]
  simp only [decide_eq_true_eq]; omega
theorem z2q {now : Int} {c : zb} (hg : zki c = true) (ho : c.On = true) (ht : c.Time ≤ now ∧ now ≤ 1099511627776) (hh : c.Height + 1 < 1099511627776) :
    (z8t now c).2 = 0 ∧ ∃ m k, m = c.Pending.foldl (zqm now) { c with Height := c.Height + 1, Time := now } ∧ zai1 m ∧ m.Ripes.length = c.Ripes.length + c.Pending.length ∧ k ≤ m.Ripes.length ∧
      (z8t now c).1 = { m with Pending := [], Ripes := m.Ripes.drop k, Out := { c.Out with Said := c.Out.Said ++ (m.Ripes.take k).map matT, Due := c.Out.Due ++ List.replicate k (now + 40) } } ∧
      m.On = c.On ∧ m.Gone = c.Gone ∧ m.Height = c.Height + 1 ∧ m.Time = now ∧ m.Out = c.Out ∧ (∀ r, r ∈ m.Ripes.take k → r.Due ≤ now) ∧
      (k = m.Ripes.length ∨ (∃ r, m.Ripes[k]? = some r ∧ now < r.Due) ∨ c.Out.Closed = true ∨ 400 ≤ c.Out.Said.length + k) ∧ c.Out.Said.length + k ≤ 400 ∧ zki (z8t now c).1 = true := by
  obtain ⟨g1, g2, g3, g4, g5⟩ := zcr hg
  have hw : IntKind.i64.wrap (c.Height + 1) = c.Height + 1 := zn (by have := g1.2; omega) (by have := g1.2; omega)
  have hn0 : 0 ≤ now := by have := g1.2.2.2.1; omega
  have he := zaph (now := now) hg ho ht.1 ht.2
  rw [hw] at he
  obtain ⟨m, hm⟩ : ∃ m, m = c.Pending.foldl (zqm now) { c with Height := c.Height + 1, Time := now } := ⟨_, rfl⟩
  rw [← hm] at he
  have hpm : zai1 m := by rw [hm]; exact z82 ⟨hn0, ht.2⟩ ⟨g3, g4, g1.2.2.2.2.2.1, g1.2.2.2.2.2.2⟩ g5
  obtain ⟨f1, f2, f3, f4, f5, f6⟩ := zzf (now := now) c.Pending { c with Height := c.Height + 1, Time := now }
  rw [← hm] at f1 f2 f3 f4 f5 f6
  obtain ⟨k, k1, k2, k3, k4, k5⟩ := z6x (now := now) ⟨hn0, ht.2⟩ m.Ripes { m with Pending := [] } rfl (by show ze5 m.Out; rw [f2]; exact g2) hpm.ripes
  replace f2 : m.Out = c.Out := f2
  simp only [f2] at k4 k5
  have hfin : (z8t now c).1 = { m with Pending := [], Ripes := m.Ripes.drop k, Out := { c.Out with Said := c.Out.Said ++ (m.Ripes.take k).map matT, Due := c.Out.Due ++ List.replicate k (now + 40) } } := by
    rw [he]
    show zrx now m.Ripes { m with Pending := [] } = _
    rw [k2]
    simp only [f2]
  refine ⟨by rw [he], m, k, hm, hpm, f1, k1, hfin, f3, f4, f5, f6, f2, k3, k4, k5, ?_⟩
  rw [hfin]
  have hl : ((m.Ripes.take k).map matT).length = k := by rw [List.length_map, List.length_take]; omega
  refine zry ⟨by show (m.On && m.Gone) = false; rw [f3, f4]; exact g1.1, by show 0 ≤ m.Height; rw [f5]; show 0 ≤ c.Height + 1; have := g1.2; omega, ?_, by show 0 ≤ m.Time; rw [f6]; exact hn0, by show m.Time ≤ _; rw [f6]; exact ht.2, hpm.id0, hpm.id1⟩ ?_ hpm.set ?_ rfl
  · show m.Height < _; rw [f5]; show c.Height + 1 < _
    exact hh
  · have := zai2 (n := 0) g2 (t := (m.Ripes.take k).map matT) (u := now + 40) (by omega) (by rw [hl]; exact k5)
    rw [hl] at this
    exact this
  · show (m.Ripes.drop k).all znx = true
    rw [List.all_eq_true]
    intro r hr
    exact List.all_eq_true.1 hpm.ripes r (List.mem_of_mem_drop hr)
end Go.Proofs.YtmakmlnfbdablaaGreat.Ab
namespace Go.Proofs.YtmakmlnfbdablaaGreat.Ab
open Go Go.RowKit
set_option linter.unusedVariables false
set_option linter.unusedSimpArgs false
theorem z6y {w w' : Wld} (h : OkW w) (hd : w.deeds < 600) (e1 : w'.deeds = w.deeds + 1) (e2 : w'.clock = w.clock) (p : GoodX w'.p) (ph : w'.p.Height ≤ w.deeds + 1) (pt : w'.p.Time ≤ w.clock) (pq : ((w'.p.Queue.length : Nat) : Int) ≤ w.deeds + 1)
    {i : Int} (ci : ConsW w' i) (cj : ∀ j : Int, 0 ≤ j ∧ j < 2 → j ≠ i → zc w'.consumers j = zc w.consumers j ∧ SameL w'.p w.p j) : OkW w' := by
  have d0 := h.d0
  refine ⟨by omega, by omega, by rw [e2]; exact h.t0, by rw [e2]; exact h.t1, p, by omega, by omega, by omega, fun j hj => ?_⟩
  by_cases e : j = i
  · rw [e]; exact ci
  · obtain ⟨c1, c2⟩ := cj j hj e
    exact (h.c j hj).more c1 c2 (by omega) (by omega)
theorem zabb {w w' : Wld} (h : OkW w) (hd : w.deeds < 600) (e1 : w'.deeds = w.deeds + 1) (e2 : w'.clock = w.clock) (e3 : w'.p = w.p) {i : Int} (hi : 0 ≤ i ∧ i < 2) {c : zb} (hc : w'.consumers = znz w.consumers i c)
    (good : zki c = true) (height : c.Height ≤ w.deeds + 1) (time : c.Time ≤ w.clock) (size : ((c.Pending.length + c.Ripes.length : Nat) : Int) ≤ w.deeds + 1) (on : c.On = (zc w.consumers i).On) (gone : c.Gone = (zc w.consumers i).Gone)
    (said : ∀ s, s ∈ c.Out.Said → PkB s) (ho : (zc w.consumers i).On = true) : OkW w' := by
  have hw := h.c i hi
  have hci : zc w'.consumers i = c := by rw [hc, zfe hi]
  refine z6y (i := i) h hd e1 e2 (by rw [e3]; exact h.p) (by rw [e3]; have := h.ph; omega) (by rw [e3]; exact h.pt) (by rw [e3]; have := h.pq; omega) ?_ fun j hj hji => ⟨by rw [hc, zat hi hj hji], by rw [e3]; exact .refl _ _⟩
  have on' : w.p.Links.On.get i = true := by rw [← hw.on]; exact ho
  refine ⟨by rw [hci]; exact good, by rw [hci, e1]; exact height, by rw [hci, e2]; exact time, by rw [hci, e1]; exact size, by rw [hci, e3, on]; exact hw.on, by rw [hci, e3, gone]; exact hw.gone, by rw [e3]; exact hw.told, by rw [hci]; exact said, fun k => ?_⟩
  rw [e3, on'] at k; cases k
theorem zamn {a b : ByteArray} (h : a.toList = b.toList) : a = b := by
  rw [ByteArray.toList_eq, ByteArray.toList_eq] at h
  obtain ⟨⟨a⟩⟩ := a
  obtain ⟨⟨b⟩⟩ := b
  simp only at h
  rw [h]
theorem zaue {r : Ripe} (h : znx r = true) : PkB (matT r) := ⟨matP r, zadd h, by unfold matP; simp, rfl⟩
theorem zafi {w : Wld} (h : OkW w) (hd : w.deeds < 600) {i : Int} (hi : 0 ≤ i ∧ i < 2) (ho : (zc w.consumers i).On = true) : OkW (zx1 (zba w) i).1 := by
  have hc := h.c i hi
  have h1 := h.t1
  have hh := hc.height
  obtain ⟨e0, m, k, hm, hpm, hl, hk, hf, f1, f2, f3, f4, f5, f6, f7, f8, hg⟩ := z2q hc.good ho ⟨hc.time, by omega⟩ (by omega)
  unfold zx1
  rw [if_neg (by show ¬ (z8t w.clock (zc w.consumers i)).2 ≠ 0; rw [e0]; simp)]
  refine zabb h hd rfl rfl rfl hi (c := (z8t w.clock (zc w.consumers i)).1) rfl hg ?_ ?_ ?_ ?_ ?_ ?_ ho
  all_goals rw [hf]
  · show m.Height ≤ _; rw [f3]; omega
  · show m.Time ≤ _; rw [f4]; omega
  · have := hc.size
    simp only [List.length_nil, List.length_drop]
    omega
  · exact f1
  · exact f2
  · intro s hs
    rcases List.mem_append.1 hs with hs | hs
    · exact hc.said s hs
    · obtain ⟨r, hr, rfl⟩ := List.mem_map.1 hs
      exact zaue (List.all_eq_true.1 hpm.ripes r (List.mem_of_mem_take hr))
theorem z6z {c : zb} (hg : zki c = true) {q : Packet} (hq : q.Kind ≠ 1) {now : Int} (h : (zvo q now c).1 = 0) :
    zeb q = 0 ∧ 0 ≤ IntKind.i64.wrap (now + 40) ∧ c.Out.Closed = false ∧ c.Out.Said.length < 400 ∧ (zvo q now c).2 = { c with Out := { c.Out with Said := c.Out.Said ++ [txt (zqr q)], Due := c.Out.Due ++ [IntKind.i64.wrap (now + 40)] } } ∧ zki (zvo q now c).2 = true := by
  obtain ⟨k1, k2, k3⟩ := zal2 h
  obtain ⟨l1, l2, l3, l4, _⟩ := zae6 k2
  obtain ⟨g1, g2, g3, g4, g5⟩ := zcr hg
  refine ⟨k1, l2, l3, l4, by rw [k3], ?_⟩
  rw [k3]
  exact zry g1 (z8v l1 l2 l4) g3 g4 g5
theorem zamo {w w' : Wld} (h : OkW w) (hd : w.deeds < 600) (e1 : w'.deeds = w.deeds + 1) (e2 : w'.clock = w.clock) (e3 : w'.p = w.p) {i : Int} (hi : 0 ≤ i ∧ i < 2) (ho : (zc w.consumers i).On = true) {q : Packet} (hq : q.Kind ≠ 1) (hs : (zvo q w.clock (zc w.consumers i)).1 = 0) {f : A6 Bool}
    (hc : w'.consumers = znz w.consumers i { (zvo q w.clock (zc w.consumers i)).2 with Flags := f }) : OkW w' := by
  have hw := h.c i hi
  obtain ⟨s1, s2, s3, s4, s5, s6⟩ := z6z hw.good hq hs
  obtain ⟨g1, g2, g3, g4, g5⟩ := zcr s6
  have hz := hw.size; have hh := hw.height; have ht := hw.time
  refine zabb h hd e1 e2 e3 hi hc (zry g1 g2 g3 g4 g5) ?_ ?_ ?_ ?_ ?_ ?_ ho
  all_goals rw [s5]
  · show (zc w.consumers i).Height ≤ _; omega
  · exact ht
  · show (((zc w.consumers i).Pending.length + (zc w.consumers i).Ripes.length : Nat) : Int) ≤ _; omega
  · intro s hs
    rcases List.mem_append.1 hs with hs | hs
    · exact hw.said s hs
    · rw [List.mem_singleton.1 hs]; exact ⟨q, s1, hq, rfl⟩
theorem zahk {w : Wld} (h : OkW w) (hd : w.deeds < 600) {i : Int} {r : zb × Int} (hr : r.2 = 0 → OkW { zba w with consumers := znz w.consumers i r.1 }) : OkW (putW (zba w) i r).1 := by
  unfold putW
  by_cases e : r.2 = 0
  · rw [if_neg (by simpa using e)]; exact hr e
  · rw [if_pos e]; exact zls h hd
theorem zapu {w : Wld} (h : OkW w) (hd : w.deeds < 600) {i : Int} (hi : 0 ≤ i ∧ i < 2) (ho : (zc w.consumers i).On = true) (v : Int) : OkW (putW (zba w) i (z6k (zc w.consumers i) v w.clock)).1 := by
  refine zahk h hd fun h0 => ?_
  obtain ⟨_, _, _, _, _, _, _, hs, he⟩ := zag3 h0
  rw [he]
  exact zamo h hd rfl rfl rfl hi ho (by simp) hs rfl
theorem zai3 {w : Wld} (h : OkW w) (hd : w.deeds < 600) {i : Int} (hi : 0 ≤ i ∧ i < 2) (ho : (zc w.consumers i).On = true) (v n : Int) : OkW (putW (zba w) i (zsm (zc w.consumers i) v n w.clock)).1 := by
  refine zahk h hd fun h0 => ?_
  unfold zsm at h0 ⊢
  by_cases h1 : zki (zc w.consumers i) = false ∨ w.clock < 0 ∨ 1099511627776 < w.clock
  · rw [if_pos h1] at h0; cases h0
  rw [if_neg h1] at h0 ⊢
  by_cases h2 : (zc w.consumers i).On = false ∨ v < 0 ∨ 5 < v
  · rw [if_pos h2] at h0; cases h0
  rw [if_neg h2] at h0 ⊢
  by_cases h3 : n < 1 ∨ (zc w.consumers i).Id < n
  · rw [if_pos h3] at h0; cases h0
  rw [if_neg h3] at h0 ⊢
  exact zamo h hd rfl rfl rfl hi ho (q := ⟨4, n, v, maxC (zc w.consumers i) v, [], []⟩) (by simp) h0 (f := (zvo ⟨4, n, v, maxC (zc w.consumers i) v, [], []⟩ w.clock (zc w.consumers i)).2.Flags) rfl
theorem zai4 {p : za} (h : GoodX p) {i : Int} (hi : 0 ≤ i ∧ i < 2) {l : zeg} (hl : ze5 l) : GoodX { p with Links := z3p p.Links i l } := by
  have hlk : ∀ j : Int, 0 ≤ j ∧ j < 2 → LkX { p with Links := z3p p.Links i l } j := by
    intro j hj
    obtain ⟨a1, a2, a3, a4, a5, a6⟩ := h.lk hj
    refine ⟨a1, a2, a3, a4, ?_, a6⟩
    rw [zz7, ztj hi hj]
    split
    · exact hl
    · exact a5
  exact ⟨h.1, h.2.1, h.2.2.1, okLk_iff.2 (hlk 0 (by omega)), okLk_iff.2 (hlk 1 (by omega)), h.2.2.2.2.2⟩
theorem zai5 {p : za} (h : GoodX p) (i : Int) (s : z7w) : GoodX { p with Links := z2p p.Links i s } := by
  have hlk : ∀ j : Int, 0 ≤ j ∧ j < 2 → LkX { p with Links := z2p p.Links i s } j := by
    intro j hj
    obtain ⟨a1, a2, a3, a4, a5, a6⟩ := h.lk hj
    exact ⟨a1, a2, a3, a4, a5, a6⟩
  exact ⟨h.1, h.2.1, h.2.2.1, okLk_iff.2 (hlk 0 (by omega)), okLk_iff.2 (hlk 1 (by omega)), h.2.2.2.2.2⟩
theorem zamp {w : Wld} (h : OkW w) (hd : w.deeds < 600) {i : Int} (hi : 0 ≤ i ∧ i < 2) (ho : (zc w.consumers i).On = true) (back : Bool) : OkW (z81 (zba w) i back).1 := by
  unfold z81
  have hw := h.c i hi
  cases back with
  | true =>
    rw [if_pos rfl]
    refine zaba (zls h hd) (zai5 h.p i _) rfl rfl rfl fun j hj => ⟨rfl, rfl, ?_⟩
    rfl
  | false =>
    rw [if_neg (by simp)]
    obtain ⟨g1, g2, g3, g4, g5⟩ := zcr hw.good
    have hz := hw.size; have hh := hw.height
    exact zabb h hd rfl rfl rfl hi rfl (zry g1 g2 g3 g4 g5) (by show (zc w.consumers i).Height ≤ _; omega) hw.time (by show (((zc w.consumers i).Pending.length + (zc w.consumers i).Ripes.length : Nat) : Int) ≤ _; omega) rfl rfl hw.said ho
theorem z83 {w : Wld} {d : Deed} (h : (zoa w d).2 = 0) : ze5 (zej w d.C d.Back) ∧ (zej w d.C d.Back).Closed = false ∧ (zej w d.C d.Back).Got + 1 ≤ ((zej w d.C d.Back).Said.length : Int) ∧ (zej w d.C d.Back).Got + 1 ≤ zaa7 w d.C d.Back ∧
    zlr (zej w d.C d.Back) d.Forged = (zej w d.C d.Back).Said.getD (zej w d.C d.Back).Got.toNat .empty ∧ w.clock < (zej w d.C d.Back).Due.getD (zej w d.C d.Back).Got.toNat 0 ∧
    (zoa w d).1 = { zej w d.C d.Back with Got := (zej w d.C d.Back).Got + 1 } ∧ ze5 (zoa w d).1 := by
  have hs : (zej w d.C d.Back).Got + 1 ≤ zaa7 w d.C d.Back := by
    unfold zoa zph at h
    by_cases h1 : ¬ ze5 (zej w d.C d.Back)
    · rw [if_pos h1] at h; cases h
    rw [if_neg h1] at h
    have hl := Classical.not_not.1 h1
    have e4 : (zej w d.C d.Back).Said.length ≤ 400 := hl.2.1
    have hw : IntKind.i64.wrap ((zej w d.C d.Back).Got + 1) = (zej w d.C d.Back).Got + 1 := zn (by have := hl.2.2.1; omega) (by have := hl.2.2.2.1; omega)
    rw [hw] at h
    by_cases h2 : (zej w d.C d.Back).Closed = true
    · rw [if_pos h2] at h; cases h
    rw [if_neg h2, if_neg (by simp)] at h
    by_cases h3 : zaa7 w d.C d.Back < (zej w d.C d.Back).Got + 1 ∨ ((zej w d.C d.Back).Said.length : Int) < (zej w d.C d.Back).Got + 1 ∨ ((zej w d.C d.Back).Said.getD (zej w d.C d.Back).Got.toNat .empty).toList ≠ (zlr (zej w d.C d.Back) d.Forged).toList
    · rw [if_pos h3] at h; cases h
    · simp only [not_or] at h3; omega
  obtain ⟨h1, h2, h3, h4, h5, h6, h7⟩ := zah8 h
  have e4 : (zej w d.C d.Back).Said.length ≤ 400 := h1.2.1
  have hw : IntKind.i64.wrap ((zej w d.C d.Back).Got + 1) = (zej w d.C d.Back).Got + 1 := zn (by have := h1.2.2.1; omega) (by have := h1.2.2.2.1; omega)
  rw [hw] at h4
  have he : (zoa w d).1 = { zej w d.C d.Back with Got := (zej w d.C d.Back).Got + 1 } := by
    unfold zoa
    rw [h7, hw]
  refine ⟨h1, Bool.eq_false_iff.2 h2, h4, hs, ?_, h6, he, ?_⟩
  · exact (zamn h5).symm
  · rw [he]
    obtain ⟨g1, g2, g3, g4, g5⟩ := h1
    exact ⟨g1, g2, by show 0 ≤ (zej w d.C d.Back).Got + 1; omega, h4, g5⟩
end Go.Proofs.YtmakmlnfbdablaaGreat.Ab
namespace Go.Proofs.YtmakmlnfbdablaaGreat.Ab
open Go Go.RowKit
set_option linter.unusedVariables false
set_option linter.unusedSimpArgs false
theorem z60 {c : zb} (hg : zki c = true) {s : List UInt8} (h : (zxg c s).2 = 0) : c.On = true ∧ zeb (zaz s).1 = 0 ∧ (zaz s).1.Kind = 1 ∧ (zaz s).2 = 0 ∧ (zxg c s).1 = { c with Pending := c.Pending ++ [(zaz s).1] } ∧ zki (zxg c s).1 = true := by
  unfold zxg at h ⊢
  rw [if_neg (by rw [hg]; simp)] at h ⊢
  by_cases h1 : c.On = false
  · rw [if_pos h1] at h; cases h
  rw [if_neg h1] at h ⊢
  by_cases h2 : (zaz s).2 = 0
  · rw [if_neg (by simpa using h2)] at h ⊢
    by_cases h3 : (zaz s).1.Kind = 1
    · rw [if_neg (by simpa using h3)]
      have gp := zahd h2
      refine ⟨by simpa using h1, gp, h3, h2, rfl, ?_⟩
      obtain ⟨g1, g2, g3, g4, g5⟩ := zcr hg
      refine zry g1 g2 g3 g4 ?_
      show (c.Pending ++ [(zaz s).1]).all zny = true
      rw [List.all_append, g5]
      simp [zny, gp, h3]
    · rw [if_pos h3] at h; cases h
  · rw [if_pos h2] at h; exact absurd h h2
theorem z3r {p : za} (hg : zad p = true) {i : Int} {s : List UInt8} (h : (zol p i s).2 = 0) : (0 ≤ i ∧ i < 2) ∧ p.Links.On.get i = true ∧ zeb (zaz s).1 = 0 ∧ (zaz s).1.Kind ≠ 1 ∧ (zaz s).2 = 0 ∧ (zol p i s).1 = { p with Queue := p.Queue ++ [⟨i, (zaz s).1⟩] } ∧ GoodX (zol p i s).1 := by
  unfold zol at h ⊢
  rw [if_neg (by rw [hg]; simp)] at h ⊢
  by_cases h1 : (0 ≤ i ∧ i < 2) ∧ p.Links.On.get i = true
  · rw [if_pos h1] at h ⊢
    by_cases h2 : (zaz s).2 = 0
    · rw [if_neg (by simpa using h2)] at h ⊢
      by_cases h3 : (zaz s).1.Kind = 1
      · rw [if_pos h3] at h; cases h
      · rw [if_neg h3]
        have gp := zahd h2
        have hx := (goodPr_iff.1 hg).1
        refine ⟨h1.1, h1.2, gp, h3, h2, rfl, hx.1, hx.2.1, hx.2.2.1, hx.2.2.2.1, hx.2.2.2.2.1, ?_⟩
        show (p.Queue ++ [_]).all _ = true
        rw [List.all_append, Bool.and_eq_true]
        refine ⟨hx.2.2.2.2.2, List.all_eq_true.2 fun b hb => ?_⟩
        rw [List.mem_singleton.1 hb]
        exact ask_iff.2 ⟨h1.1, h1.2, gp, h3⟩
    · rw [if_pos h2] at h; exact absurd h h2
  · rw [if_neg h1] at h; cases h
theorem zafj {w : Wld} (h : OkW w) (hd : w.deeds < 600) {d : Deed} (hi : 0 ≤ d.C ∧ d.C < 2) (ho : (zc w.consumers d.C).On = true) : OkW (zsa (zba w) d).1 := by
  have hw := h.c d.C hi
  unfold zsa
  by_cases h0 : (zoa w d).2 = 0
  · rw [if_neg (by show ¬ (zoa w d).2 ≠ 0; simpa using h0)]
    obtain ⟨f1, f2, f3, f4, f5, f6, f7, f8⟩ := z83 h0
    cases hb : d.Back with
    | true =>
      rw [if_pos rfl]
      rw [hb] at f5
      have e0 : zej w d.C true = (zc w.consumers d.C).Out := rfl
      by_cases h1 : (zol w.p d.C (zlr (zej w d.C true) d.Forged).data.toList).2 = 0
      · rw [if_neg (by show ¬ (zol w.p d.C (zlr (zej w d.C true) d.Forged).data.toList).2 ≠ 0; simpa using h1)]
        obtain ⟨q1, q2, q3, q4, q5, q6, q7⟩ := z3r h.pr h1
        obtain ⟨g1, g2, g3, g4, g5⟩ := zcr hw.good
        have hz := hw.size; have hh := hw.height; have hp := h.ph; have hq := h.pq
        have hr : (zoa w d).1 = { (zc w.consumers d.C).Out with Got := (zc w.consumers d.C).Out.Got + 1 } := by rw [f7, hb]; rfl
        have e6 : (zol (zba w).p d.C (zlr (zej (zba w) d.C true) d.Forged).data.toList).1 = { w.p with Queue := w.p.Queue ++ [⟨d.C, (zaz (zlr (zej w d.C true) d.Forged).data.toList).1⟩] } := q6
        simp only [e6]
        refine z6y (i := d.C) h hd rfl rfl (by rw [← q6]; exact q7) (by show w.p.Height ≤ _; omega) h.pt (by show (((w.p.Queue ++ [_]).length : Nat) : Int) ≤ _; rw [List.length_append, List.length_singleton]; omega) ?_ fun j hj hji => ⟨zat hi hj hji _, rfl, rfl, rfl⟩
        have hci : zc (znz (zba w).consumers d.C { zc (zba w).consumers d.C with Out := (zoa (zba w) d).1 }) d.C = { zc w.consumers d.C with Out := (zoa w d).1 } := zfe hi _
        refine ⟨?_, ?_, ?_, ?_, ?_, ?_, hw.told, ?_, fun k => ?_⟩
        · rw [hci]; exact zry g1 f8 g3 g4 g5
        · rw [hci]; show (zc w.consumers d.C).Height ≤ w.deeds + 1; omega
        · rw [hci]; exact hw.time
        · rw [hci]; show (((zc w.consumers d.C).Pending.length + (zc w.consumers d.C).Ripes.length : Nat) : Int) ≤ w.deeds + 1; omega
        · rw [hci]; exact hw.on
        · rw [hci]; exact hw.gone
        · rw [hci]; show ∀ s, s ∈ (zoa w d).1.Said → PkB s; rw [hr]; exact hw.said
        · have k' : w.p.Links.On.get d.C = false := k
          rw [q2] at k'; cases k'
      · rw [if_pos (by exact h1)]; exact zls h hd
    | false =>
      rw [if_neg (by simp)]
      rw [hb] at f5
      by_cases h1 : (zxg (zc w.consumers d.C) (zlr (zej w d.C false) d.Forged).data.toList).2 = 0
      · rw [if_neg (by show ¬ (zxg (zc w.consumers d.C) (zlr (zej w d.C false) d.Forged).data.toList).2 ≠ 0; simpa using h1)]
        obtain ⟨q1, q2, q3, q4, q5, q6⟩ := z60 hw.good h1
        have hz := hw.size; have hh := hw.height; have hp := h.ph; have hq := h.pq
        have hr : (zoa w d).1 = { (zh w.p.Links d.C).Out with Got := (zh w.p.Links d.C).Out.Got + 1 } := by rw [f7, hb]; rfl
        have on' : w.p.Links.On.get d.C = true := by rw [← hw.on]; exact ho
        refine z6y (i := d.C) h hd rfl rfl (zai4 h.p hi f8) (by show w.p.Height ≤ _; omega) h.pt (by show ((w.p.Queue.length : Nat) : Int) ≤ _; omega) ?_ fun j hj hji => ⟨zat hi hj hji _, rfl, rfl, ?_⟩
        · have hci : zc (znz (zba w).consumers d.C (zxg (zc (zba w).consumers d.C) (zlr (zej (zba w) d.C false) d.Forged).data.toList).1) d.C = (zxg (zc w.consumers d.C) (zlr (zej w d.C false) d.Forged).data.toList).1 := zfe hi _
          refine ⟨?_, ?_, ?_, ?_, ?_, ?_, ?_, ?_, fun k => ?_⟩
          · rw [hci]; exact q6
          · rw [hci, q5]; show (zc w.consumers d.C).Height ≤ w.deeds + 1; omega
          · rw [hci, q5]; exact hw.time
          · rw [hci, q5]
            show ((((zc w.consumers d.C).Pending ++ [_]).length + (zc w.consumers d.C).Ripes.length : Nat) : Int) ≤ w.deeds + 1
            rw [List.length_append, List.length_singleton]; omega
          · rw [hci, q5]; exact hw.on
          · rw [hci, q5]; exact hw.gone
          · show ∀ s, s ∈ (zh (z3p w.p.Links d.C (zoa w d).1) d.C).Out.Said → Pk1 s
            rw [ztj hi hi, if_pos rfl, hr]; exact hw.told
          · rw [hci, q5]; exact hw.said
          · have k' : w.p.Links.On.get d.C = false := k
            rw [on'] at k'; cases k'
        · show (zh (z3p w.p.Links d.C (zoa w d).1) j).Out.Said = _
          rw [ztj hi hj, if_neg hji]
      · rw [if_pos (by exact h1)]; exact zls h hd
  · rw [if_pos (by exact h0)]; exact zls h hd
theorem zafk {w : Wld} (h : OkW w) (hd : w.deeds < 600) : OkW (zlq (zba w)).1 := by
  have ht : zad w.p = true ∧ w.p.Time ≤ w.clock ∧ w.clock ≤ 1099511627776 := ⟨h.pr, h.pt, by have := h.t1; omega⟩
  unfold zlq
  rw [if_neg (by show ¬ (zjh w.p w.clock).2.2 ≠ 0; rw [zaff ht]; simp)]
  obtain ⟨r1, r2, r3, r4, r5, r6, r7, r8⟩ := z1z ht
  obtain ⟨S, D, M, e, hS, hdn, hl, hm⟩ := z4m ht.1 w.clock
  have hg := zapp ht.1 ht.2
  have hp := h.ph; have hq := h.pq; have d0 := h.d0
  refine ⟨by show 0 ≤ w.deeds + 1; omega, by show w.deeds + 1 ≤ 600; omega, h.t0, h.t1, hg, by show (zjh w.p w.clock).1.Height ≤ w.deeds + 1; rw [r1]; omega, by show (zjh w.p w.clock).1.Time ≤ w.clock; rw [r2]; exact Int.le_refl _, by show (((zjh w.p w.clock).1.Queue.length : Nat) : Int) ≤ w.deeds + 1; rw [r5]; omega, fun i hi => ?_⟩
  obtain ⟨D', -, hD⟩ := z4n ht hi
  have hw := h.c i hi
  have hz := hw.size; have hh := hw.height
  have o1 : (zjh w.p w.clock).1.Links.On.get i = w.p.Links.On.get i := by rw [r6]
  have o2 : (zjh w.p w.clock).1.Links.Gone.get i = w.p.Links.Gone.get i := by rw [r7]
  refine ⟨hw.good, by show (zc w.consumers i).Height ≤ w.deeds + 1; omega, hw.time, by show (((zc w.consumers i).Pending.length + (zc w.consumers i).Ripes.length : Nat) : Int) ≤ w.deeds + 1; omega, hw.on.trans o1.symm, hw.gone.trans o2.symm, ?_, hw.said, ?_⟩
  · show ∀ s, s ∈ (zh (zjh w.p w.clock).1.Links i).Out.Said → Pk1 s
    rw [← zz7]
    rcases hD with ⟨-, -, -, e4, -⟩ | ⟨-, -, -, -, -, -, -, e8, e9⟩
    · rw [e4]; exact hw.told
    · rw [e9]
      intro s hs
      rcases List.mem_append.1 hs with hs | hs
      · exact hw.told s hs
      · rw [List.mem_singleton.1 hs]; exact ⟨_, e8, rfl, rfl⟩
  · intro k1 k2
    have k1' : w.p.Links.On.get i = false := o1.symm.trans k1
    obtain ⟨c1, c2⟩ := hw.fresh k1' (o2.symm.trans k2)
    refine ⟨c1, ?_⟩
    show (zh (zjh w.p w.clock).1.Links i).Out.Said = []
    rw [← zz7]
    rcases hD with ⟨-, -, -, e4, -⟩ | ⟨-, -, -, e4, -⟩
    · rw [e4]; exact c2
    · rw [k1'] at e4; cases e4
theorem zkg {L : Links} {i j H : Int} {T : List Power} {f : Bool} (hi : 0 ≤ i ∧ i < 2) (hj : 0 ≤ j ∧ j < 2) : zh (zir L i H T f) j = if j = i then ⟨true, false, H, T, f, [], ⟨[], [], 0, false⟩, ⟨0, 0, 0, 0⟩⟩ else zh L j := by
  unfold zh zir
  simp only [zan _ _ hi hj]
  by_cases e : j = i
  · simp only [if_pos e]
  · simp only [if_neg e]
theorem zz8 {p : za} {i : Int} (h : (zep p i).2 = 0) : zad p = true ∧ (0 ≤ i ∧ i < 2) ∧ p.Links.Gone.get i = false ∧ p.Links.On.get i = false ∧ 1 ≤ p.Height ∧ p.Set.length ≠ 0 ∧ (zep p i).1 = zom p i (p.Stake.Waits.map (zji i p.Height)) (zxz p) := by
  unfold zep at h ⊢
  cases hg : zad p with
  | false => rw [if_pos hg] at h; cases h
  | true =>
    rw [if_neg (by rw [hg]; simp)] at h
    rw [if_neg (by simp)]
    by_cases hi : 0 ≤ i ∧ i < 2
    · rw [if_pos hi] at h ⊢
      by_cases h1 : p.Links.Gone.get i = true
      · rw [if_pos h1] at h; cases h
      rw [if_neg h1] at h ⊢
      by_cases h2 : p.Links.On.get i = true
      · rw [if_pos h2] at h; cases h
      rw [if_neg h2] at h ⊢
      by_cases h3 : p.Height < 1 ∨ p.Set.length = 0
      · rw [if_pos h3] at h; cases h
      rw [if_neg h3]
      simp only [not_or] at h3
      exact ⟨rfl, hi, Bool.eq_false_iff.2 h1, Bool.eq_false_iff.2 h2, by omega, h3.2, rfl⟩
    · rw [if_neg hi] at h; cases h
theorem zai6 {p : za} (hx : GoodX p) {i : Int} (hi : 0 ≤ i ∧ i < 2) (ho : p.Links.On.get i = false) : GoodX (zom p i (p.Stake.Waits.map (zji i p.Height)) (zxz p)) := by
  obtain ⟨b1, b2, b3, b4, b5, b6, b7⟩ := hx.1
  have hf : ∀ w, (zji i p.Height w).Number = w.Number ∧ (zji i p.Height w).D = w.D ∧ (zji i p.Height w).V = w.V ∧ (zji i p.Height w).Amount = w.Amount ∧ (zji i p.Height w).Height = w.Height ∧ (zji i p.Height w).Due = w.Due := by
    intro w; unfold zji; split <;> exact ⟨rfl, rfl, rfl, rfl, rfl, rfl⟩
  have gs : GoodS { p.Stake with Waits := p.Stake.Waits.map (zji i p.Height) } := by
    refine ⟨b1, ⟨b2.1, b2.2.1, by show (p.Stake.Waits.map _).length ≤ 60; rw [List.length_map]; exact b2.2.2⟩, b3, zxw (fun w hw => ⟨(hf w).1, (hf w).2.1, (hf w).2.2.1, by rw [(hf w).2.2.2.1]; exact hw, (hf w).2.2.2.2.1, (hf w).2.2.2.2.2⟩) b4, b5, ?_, b7⟩
    show zso (p.Stake.Waits.map _) = _
    rw [zaa2 (fun w => (hf w).2.2.2.1)]; exact b6
  have hlk : ∀ j : Int, 0 ≤ j ∧ j < 2 → LkX (zom p i (p.Stake.Waits.map (zji i p.Height)) (zxz p)) j := by
    intro j hj
    obtain ⟨a1, a2, a3, a4, a5, a6⟩ := hx.lk hj
    have el := zkg (L := p.Links) (H := p.Height) (T := p.Set) (f := zxz p) hi hj
    by_cases e : j = i
    · rw [if_pos e] at el
      have z := hx.2.1.1
      exact ⟨by show ¬ ((zh (zir p.Links i p.Height p.Set (zxz p)) j).On = true ∧ (zh (zir p.Links i p.Height p.Set (zxz p)) j).Gone = true); rw [el]; simp, by show 0 ≤ (zh (zir p.Links i p.Height p.Set (zxz p)) j).Base; rw [el]; exact z,
        by show (zh (zir p.Links i p.Height p.Set (zxz p)) j).Base ≤ p.Height; rw [el]; exact Int.le_refl _, by show zw 1 (-1) (zh (zir p.Links i p.Height p.Set (zxz p)) j).Told = true; rw [el]; exact hx.2.2.1,
        by show ze5 (zh (zir p.Links i p.Height p.Set (zxz p)) j).Out; rw [el]; exact z6l, by show zap (-1) (zh (zir p.Links i p.Height p.Set (zxz p)) j).Done = true; rw [el]; rfl⟩
    · rw [if_neg e] at el
      exact ⟨by show ¬ ((zh (zir p.Links i p.Height p.Set (zxz p)) j).On = true ∧ (zh (zir p.Links i p.Height p.Set (zxz p)) j).Gone = true); rw [el]; exact a1, by show 0 ≤ (zh (zir p.Links i p.Height p.Set (zxz p)) j).Base; rw [el]; exact a2,
        by show (zh (zir p.Links i p.Height p.Set (zxz p)) j).Base ≤ p.Height; rw [el]; exact a3, by show zw 1 (-1) (zh (zir p.Links i p.Height p.Set (zxz p)) j).Told = true; rw [el]; exact a4,
        by show ze5 (zh (zir p.Links i p.Height p.Set (zxz p)) j).Out; rw [el]; exact a5, by show zap (-1) (zh (zir p.Links i p.Height p.Set (zxz p)) j).Done = true; rw [el]; exact a6⟩
  refine ⟨gs, hx.2.1, hx.2.2.1, okLk_iff.2 (hlk 0 (by omega)), okLk_iff.2 (hlk 1 (by omega)), List.all_eq_true.2 fun b hb => ask_iff.2 ?_⟩
  obtain ⟨q1, q2, q3, q4⟩ := hx.ask hb
  refine ⟨q1, ?_, q3, q4⟩
  show (p.Links.On.set i true).get b.C = true
  rw [zan _ _ hi q1]
  split
  · rfl
  · exact q2
theorem zamq {w : Wld} (h : OkW w) (hd : w.deeds < 600) (i : Int) : OkW (z3q (zba w) i).1 := by
  unfold z3q
  by_cases h0 : (zep w.p i).2 = 0
  · rw [if_neg (by show ¬ (zep w.p i).2 ≠ 0; simpa using h0)]
    obtain ⟨f1, hi, f3, f4, f5, f6, f7⟩ := zz8 h0
    have hgb := zai6 h.p hi f4
    have hp := h.ph; have hq := h.pq; have d0 := h.d0; have d1 := h.d1
    have e6 : (zep (zba w).p i).1 = zom w.p i (w.p.Stake.Waits.map (zji i w.p.Height)) (zxz w.p) := f7
    simp only [e6]
    refine z6y (i := i) h hd rfl rfl hgb (by show w.p.Height ≤ _; omega) h.pt (by show ((w.p.Queue.length : Nat) : Int) ≤ _; omega) ?_ fun j hj hji => ⟨zat hi hj hji _, .of ?_⟩
    · have hci : zc (znz (zba w).consumers i (zrw w.p.Set w.p.Height w.clock)) i = zrw w.p.Set w.p.Height w.clock := zfe hi _
      have el := zkg (L := w.p.Links) (H := w.p.Height) (T := w.p.Set) (f := zxz w.p) hi hi
      rw [if_pos rfl] at el
      have t0 := h.t0; have t1 := h.t1; have z := h.p.2.1.1
      refine ⟨?_, ?_, ?_, ?_, ?_, ?_, ?_, ?_, fun k => ?_⟩
      · show zki (zc (znz (zba w).consumers i (zrw w.p.Set w.p.Height w.clock)) i) = true
        rw [hci]
        exact zry ⟨rfl, by show (0 : Int) ≤ 0; omega, by show (0 : Int) < _; omega, t0, by show w.clock ≤ _; omega, z, by show w.p.Height ≤ _; omega⟩ z6l h.p.2.2.1 rfl rfl
      · show (zc (znz (zba w).consumers i (zrw w.p.Set w.p.Height w.clock)) i).Height ≤ w.deeds + 1
        rw [hci]; show (0 : Int) ≤ _; omega
      · show (zc (znz (zba w).consumers i (zrw w.p.Set w.p.Height w.clock)) i).Time ≤ w.clock
        rw [hci]; exact Int.le_refl _
      · show (((zc (znz (zba w).consumers i (zrw w.p.Set w.p.Height w.clock)) i).Pending.length + (zc (znz (zba w).consumers i (zrw w.p.Set w.p.Height w.clock)) i).Ripes.length : Nat) : Int) ≤ w.deeds + 1
        rw [hci]; show ((0 : Nat) : Int) ≤ _; omega
      · show (zc (znz (zba w).consumers i (zrw w.p.Set w.p.Height w.clock)) i).On = (zh (zir w.p.Links i w.p.Height w.p.Set (zxz w.p)) i).On
        rw [hci, el]; rfl
      · show (zc (znz (zba w).consumers i (zrw w.p.Set w.p.Height w.clock)) i).Gone = (zh (zir w.p.Links i w.p.Height w.p.Set (zxz w.p)) i).Gone
        rw [hci, el]; rfl
      · show ∀ s, s ∈ (zh (zir w.p.Links i w.p.Height w.p.Set (zxz w.p)) i).Out.Said → Pk1 s
        rw [el]; intro s hs; cases hs
      · show ∀ s, s ∈ (zc (znz (zba w).consumers i (zrw w.p.Set w.p.Height w.clock)) i).Out.Said → PkB s
        rw [hci]; intro s hs; cases hs
      · have k' : (zh (zir w.p.Links i w.p.Height w.p.Set (zxz w.p)) i).On = false := k
        rw [el] at k'; cases k'
    · show zh (zir w.p.Links i w.p.Height w.p.Set (zxz w.p)) j = _
      rw [zkg hi hj, if_neg hji]
  · rw [if_pos (by exact h0)]; exact zls h hd
theorem zm9 {L : Links} {i j : Int} (hi : 0 ≤ i ∧ i < 2) (hj : 0 ≤ j ∧ j < 2) : zh (zx0 L i) j = if j = i then { zh L j with On := false, Gone := true, Fresh := false, Done := [], Out := { (zh L j).Out with Closed := true } } else zh L j := by
  unfold zh zx0
  simp only [zan _ _ hi hj]
  by_cases e : j = i
  · simp only [if_pos e]
  · simp only [if_neg e]
theorem zade {w : Wld} (h : OkW w) {i : Int} (hi : 0 ≤ i ∧ i < 2) (ho : (zc w.consumers i).On = true) : zur w.p i = zuq w.p i ∧ zz5 (zc w.consumers i) = { zc w.consumers i with On := false, Gone := true, Out := { (zc w.consumers i).Out with Closed := true } } := by
  have on' : w.p.Links.On.get i = true := by rw [← (h.c i hi).on]; exact ho
  exact ⟨by unfold zur; rw [if_pos ⟨h.pr, hi, on'⟩], by unfold zz5; rw [if_neg (by rw [ho]; simp)]⟩
theorem zai7 {w : Wld} (h : OkW w) (hd : w.deeds < 600) {d : Deed} (hi : 0 ≤ d.C ∧ d.C < 2) (ho : (zc w.consumers d.C).On = true) : OkW (zxi (zba w) d).1 := by
  unfold zxi
  by_cases h0 : (zaa8 w d).2 = 0
  · rw [if_neg (by show ¬ (zaa8 w d).2 ≠ 0; simpa using h0)]
    obtain ⟨f1, f2⟩ := zade h hi ho
    have hw := h.c d.C hi
    have e1 : zur (zba w).p d.C = zuq w.p d.C := f1
    have e2 : zz5 (zc (zba w).consumers d.C) = { zc w.consumers d.C with On := false, Gone := true, Out := { (zc w.consumers d.C).Out with Closed := true } } := f2
    simp only [e1, e2]
    obtain ⟨g1, g2, g3, g4, g5⟩ := zcr hw.good
    have hz := hw.size; have hh := hw.height; have hp := h.ph; have hq := h.pq
    have hqf : (w.p.Queue.filter (z4l d.C)).length ≤ w.p.Queue.length := List.length_filter_le _ _
    have el := zm9 (L := w.p.Links) hi hi
    rw [if_pos rfl] at el
    refine z6y (i := d.C) h hd rfl rfl (goodPr_iff.1 (zac9 h.pr hi)).1 (by show w.p.Height ≤ _; omega) h.pt (by show (((w.p.Queue.filter (z4l d.C)).length : Nat) : Int) ≤ _; omega) ?_ fun j hj hji => ⟨zat hi hj hji _, .of ?_⟩
    · have hci := zfe (C := (zba w).consumers) hi { zc w.consumers d.C with On := false, Gone := true, Out := { (zc w.consumers d.C).Out with Closed := true } }
      refine ⟨?_, ?_, ?_, ?_, ?_, ?_, ?_, ?_, fun k k2 => ?_⟩
      · rw [hci]; exact zry ⟨rfl, g1.2⟩ g2 g3 g4 g5
      · rw [hci]; show (zc w.consumers d.C).Height ≤ w.deeds + 1; omega
      · rw [hci]; exact hw.time
      · rw [hci]; show (((zc w.consumers d.C).Pending.length + (zc w.consumers d.C).Ripes.length : Nat) : Int) ≤ w.deeds + 1; omega
      · rw [hci]; exact (congrArg Link.On el).symm
      · rw [hci]; exact (congrArg Link.Gone el).symm
      · show ∀ s, s ∈ (zh (zx0 w.p.Links d.C) d.C).Out.Said → Pk1 s
        rw [el]; exact hw.told
      · rw [hci]; exact hw.said
      · have k' : (zh (zx0 w.p.Links d.C) d.C).Gone = false := k2
        rw [el] at k'; cases k'
    · show zh (zx0 w.p.Links d.C) j = _
      rw [zm9 hi hj, if_neg hji]
  · rw [if_pos (by exact h0)]; exact zls h hd
theorem zafl {w : Wld} (h : OkW w) (hd : w.deeds < 600) (d : Deed) : OkW (zsb (zba w) d).1 := by
  have hm := zls h hd
  unfold zsb
  by_cases c1 : d.Kind < 4 ∨ 12 < d.Kind
  · rw [if_pos c1]; exact hm
  rw [if_neg c1]
  by_cases c2 : d.C < 0 ∨ 2 ≤ d.C
  · rw [if_pos c2]; exact hm
  rw [if_neg c2]
  have hi : 0 ≤ d.C ∧ d.C < 2 := by omega
  by_cases c3 : d.Kind ≠ 4 ∧ (zba w).consumers.On.get d.C = false
  · rw [if_pos c3]; exact hm
  rw [if_neg c3]
  by_cases c4 : d.Kind = 4
  · rw [if_pos c4]; exact zamq h hd _
  rw [if_neg c4]
  have ho : (zc w.consumers d.C).On = true := by
    cases e : (zc w.consumers d.C).On with
    | true => rfl
    | false => exact absurd ⟨c4, e⟩ c3
  repeat' split
  · exact zafi h hd hi ho
  · exact zamp h hd hi ho _
  · exact zafj h hd hi ho
  · exact zai7 h hd hi ho
  · exact zapu h hd hi ho _
  · exact zai3 h hd hi ho _ _
  · exact hm
theorem zauf {w : Wld} (h : OkW w) (hd : w.deeds < 600) (d : Deed) : OkW (actW (zba w) d).1 := by
  have hm := zls h hd
  unfold actW
  repeat' split
  · exact zadc hm _ _ _
  · exact z7v hm _ _ _
  · exact zai0 hm _
  · exact zapr hm _ _
  · exact zaps hm _
  · exact zafk h hd
  · exact zafl h hd d
theorem z61 {w : Wld} (h : OkW w) (d : Deed) : OkW (doW w d).1 := by
  unfold doW
  split
  · exact h
  · rename_i hd; exact zauf h (by omega) d
end Go.Proofs.YtmakmlnfbdablaaGreat.Ab
namespace Go.Proofs.YtmakmlnfbdablaaGreat.Ab
open Go Go.RowKit
set_option linter.unusedVariables false
set_option linter.unusedSimpArgs false
theorem zafm : zno = some newW := by
  rw [zno, zuc, Tr.run_bind zaip, Tr.run_leaf]; rfl
theorem zapv (w : Wld) : ziv w = some (w.clock, w) := by rw [ziv, zgi, Tr.run_leaf]
theorem zx2 {l : List Power} (h : l.length * 16 ≤ 140737488355328) : zb8 l = some l := by
  rw [zb8, zm3, Tr.run_guard (by rw [zao]; omega), Tr.run_leaf]
theorem z2r {l : List Int} (h : l.length * 8 ≤ 140737488355328) : zcf l = some l := by
  rw [zcf, zlc, Tr.run_guard (by rw [zqk]; omega), Tr.run_leaf]
theorem zadf {p : Packet} (h1 : p.Set.length * 16 ≤ 140737488355328) (h2 : p.Done.length * 8 ≤ 140737488355328) : zf0 p = some p := by
  rw [zf0, zm5, zx2 h1, z2r h2, Tr.run_guard (by rfl), Tr.run_guard (by rfl), Tr.run_leaf]; rfl
theorem z84 {l : zeg} (h1 : l.Said.length * 16 ≤ 140737488355328) (h2 : l.Due.length * 8 ≤ 140737488355328) : zbv l = some l := by
  rw [zbv, zle, z2r h2, Tr.run_guard (by show (0 + l.Said.length) * 16 ≤ _; omega), Tr.run_guard (by rfl), Tr.run_leaf]; rfl
theorem zadg {w : Wld} (hf : FitPr 140737488351232 w.p) : zb9 w = some (w.p, w) := by
  have hw := hf.waits; have hs := hf.set; have hq := hf.queue
  have turn : ∀ (c : Nat), c < 2 → ∀ z, (zas (c : Int) w z w.p).run = some (.inl (((c + 1 : Nat) : Int), w, z, w.p)) := by
    intro c hc z
    have e1 := zx2 (l := w.p.Links.Told.get c) (by have := hf.told c; omega)
    have e2 := z2r (l := w.p.Links.Done.get c) (by have := hf.done c; omega)
    have e3 := z84 (l := (zh w.p.Links c).Out) (by have := hf.said c; show (w.p.Links.Said.get c).length * 16 ≤ _; omega) (by have := hf.due c; show (w.p.Links.Due.get c).length * 8 ≤ _; omega)
    simp only [zas]
    rw [Tr.run_true (by simp; omega), Tr.run_guard ⟨by omega, by omega⟩, e1, e2, e3, Tr.run_guard (by rfl), Tr.run_guard (by rfl), Tr.run_guard (by rfl), Tr.run_leaf, zx (by omega)]
    simp only [Option.getD_some]
    have hb : 0 ≤ (c : Int) ∧ (c : Int) < 2 := by omega
    unfold zh
    simp only [zqn _ hb]
  have l1 : ∀ z, zem 0 w z w.p = some (w, z, w.p) := by
    intro z
    rw [zem, zde (s' := (((1 : Nat) : Int), w, z, w.p)) (turn 0 (by omega) z), zde (s' := (((2 : Nat) : Int), w, z, w.p)) (turn 1 (by omega) z), ze4 (by
      show (zas 2 w z w.p).run = _
      simp only [zas]
      rw [Tr.run_false (by simp), Tr.run_leaf])]
  have l2 : ∀ z q, zen w.p.Queue w.p.Queue.length 0 w z q [] = some (w, z, q, w.p.Queue) := by
    intro z q
    rw [zen]
    have := zmb (F := fun s : (List Asked) × Int × Int × Wld × za × za × (List Asked) => (zbp s.1 s.2.1 s.2.2.1 s.2.2.2.1 s.2.2.2.2.1 s.2.2.2.2.2.1 s.2.2.2.2.2.2).run) w.p.Queue.length (fun i t => (w.p.Queue, (w.p.Queue.length : Int), (i : Int), w, z, q, t)) (fun i t => t = w.p.Queue.take i) (fun _ _ => (w, z, q, w.p.Queue)) ?_ ?_ 0 [] (Nat.zero_le _) rfl
    · exact this
    · rintro t rfl
      simp only [zbp]; rw [Tr.run_false (by simp), Tr.run_leaf, List.take_length]
    · rintro i t hi ht
      obtain ⟨p1, p2⟩ := hf.ps _ (zfk (l := w.p.Queue) (k := i) hi default)
      have htl : t.length ≤ i := by rw [ht, List.length_take]; omega
      refine .inl ⟨t ++ [w.p.Queue.getD i default], ?_, by rw [ht, zme hi default], by trivial⟩
      simp only [zbp, Int.toNat_natCast]
      rw [Tr.run_true (by simpa using hi), Tr.run_guard ⟨by omega, by rw [zf8]; omega⟩, zadf (by omega) (by omega), Tr.run_guard (by rfl), Tr.run_guard (by simp only [zf8, List.length_singleton]; omega), Tr.run_leaf, zx (by omega)]
      rfl
  rw [zb9, zed, Tr.run_guard (by rw [zch]; omega), Tr.run_bind (zx2 (by omega)), Tr.run_bind (v := (w, default, w.p)) (by exact l1 default)]
  simp only []
  rw [Tr.run_bind (v := (w, default, w.p, w.p.Queue)) (by exact l2 default w.p), Tr.run_leaf]
theorem zadh {w : Wld} {i : Int} (hf : (0 ≤ i ∧ i < 2) → FitC 140737488351232 (zc w.consumers i)) : zbi i w = some (if 0 ≤ i ∧ i < 2 then zc w.consumers i else default, w) := by
  rw [zbi, zee]
  by_cases hi : 0 ≤ i ∧ i < 2
  · have hf := hf hi
    have e1 := zx2 (l := w.consumers.Set.get i) (by have : (w.consumers.Set.get i).length * 16 ≤ _ := hf.set; omega)
    have e3 := z84 (l := (zc w.consumers i).Out) (by have := hf.said; omega) (by have := hf.due; omega)
    have hr : (w.consumers.Ripes.get i).length * 16 ≤ 140737488351232 := hf.ripes
    have hp : (w.consumers.Pending.get i).length * 80 ≤ 140737488351232 := hf.pend
    have l1 : ∀ z q, zeo (w.consumers.Pending.get i) (w.consumers.Pending.get i).length 0 w z q [] = some (w, z, q, w.consumers.Pending.get i) := by
      intro z q
      have hps : ∀ p, p ∈ w.consumers.Pending.get i → p.Set.length * 16 ≤ 140737488351232 ∧ p.Done.length * 8 ≤ 140737488351232 := hf.ps
      generalize w.consumers.Pending.get i = l at *
      rw [zeo]
      have := zmb (F := fun s : (List Packet) × Int × Int × Wld × zb × zb × (List Packet) => (zbq s.1 s.2.1 s.2.2.1 s.2.2.2.1 s.2.2.2.2.1 s.2.2.2.2.2.1 s.2.2.2.2.2.2).run) l.length (fun i t => (l, (l.length : Int), (i : Int), w, z, q, t)) (fun i t => t = l.take i) (fun _ _ => (w, z, q, l)) ?_ ?_ 0 [] (Nat.zero_le _) rfl
      · exact this
      · rintro t rfl
        simp only [zbq]; rw [Tr.run_false (by simp), Tr.run_leaf, List.take_length]
      · rintro k t hk ht
        obtain ⟨p1, p2⟩ := hps _ (zfk (l := l) (k := k) hk default)
        have htl : t.length ≤ k := by rw [ht, List.length_take]; omega
        refine .inl ⟨t ++ [l.getD k default], ?_, by rw [ht, zme hk default], by trivial⟩
        simp only [zbq, Int.toNat_natCast]
        rw [Tr.run_true (by simpa using hk), Tr.run_guard ⟨by omega, by rw [zgy]; omega⟩, Tr.run_bind (zadf (by omega) (by omega)), Tr.run_guard (by simp only [zgy, List.length_singleton]; omega), Tr.run_leaf, zx (by omega)]
    rw [if_pos hi, Tr.run_false (by simp; omega), Tr.run_guard hi, e1, e3, Tr.run_guard (by rfl), Tr.run_guard (by rfl), Tr.run_guard (by rw [znt]; omega)]
    simp only [Option.getD_some]
    rw [Tr.run_bind (v := (w, default, zc w.consumers i, w.consumers.Pending.get i)) (by exact l1 default _), Tr.run_leaf]
    rfl
  · rw [if_neg hi, Tr.run_true (by simp; omega), Tr.run_leaf]
theorem zai8 {w : Wld} (h : OkW w) {i : Int} (hi : 0 ≤ i ∧ i < 2) (b : Bool) : (zaml (zej w i b)).size ≤ 71 := by
  have hw := h.c i hi
  unfold zaml
  split
  · rename_i hg
    have hmem : (zej w i b).Said.getD (zej w i b).Got.toNat .empty ∈ (zej w i b).Said := by
      by_cases h0 : (zej w i b).Got.toNat < (zej w i b).Said.length
      · exact zfk h0 _
      · exact absurd hg (by
          cases b with
          | true => have : 0 ≤ (zc w.consumers i).Out.Got := (zcr hw.good).2.1.2.2.1
                    show ¬ (zc w.consumers i).Out.Got < _
                    have h0' : ¬ (zc w.consumers i).Out.Got.toNat < (zc w.consumers i).Out.Said.length := h0
                    show ¬ (zc w.consumers i).Out.Got < (((zc w.consumers i).Out.Said.length : Nat) : Int)
                    omega
          | false => have : 0 ≤ (zh w.p.Links i).Out.Got := (h.p.lk hi).line.2.2.1
                     have h0' : ¬ (zh w.p.Links i).Out.Got.toNat < (zh w.p.Links i).Out.Said.length := h0
                     show ¬ (zh w.p.Links i).Out.Got < (((zh w.p.Links i).Out.Said.length : Nat) : Int)
                     omega)
    generalize (zej w i b).Said.getD (zej w i b).Got.toNat .empty = s at hmem
    have : ∃ q, zeb q = 0 ∧ s = txt (zqr q) := by
      cases b with
      | true => obtain ⟨q, q1, _, q2⟩ := hw.said s hmem; exact ⟨q, q1, q2⟩
      | false => obtain ⟨q, q1, _, q2⟩ := hw.told s hmem; exact ⟨q, q1, q2⟩
    obtain ⟨q, q1, rfl⟩ := this
    have := z6r q1
    rw [z1r, zul]; omega
  · decide
theorem zamr {n : Nat} (h : n ≤ 1000) : zeb (zamk n) = 0 := by
  have hw : IntKind.i64.wrap (1 + (n : Int)) = 1 + n := zn (by omega) (by omega)
  unfold zeb zamk
  rw [hw]
  simp only []
  rw [if_neg (by omega), if_neg (by omega), if_neg (by simp), if_neg (by simp [zw]), if_neg (by simp [zap])]
theorem zaug {w : Wld} (h : OkW w) {i : Int} (hi : 0 ≤ i ∧ i < 2) (b f : Bool) : zpe (zej w i b) f = some (zlr (zej w i b) f) ∧ (zlr (zej w i b) f).size ≤ 71 := by
  have hz := zai8 h hi b
  have hg0 : 0 ≤ (zej w i b).Got := by
    cases b with
    | true => exact (zcr (h.c i hi).good).2.1.2.2.1
    | false => exact (h.p.lk hi).line.2.2.1
  have hE : ∀ n : Nat, zbn (⟨3, 1, 0, IntKind.i64.wrap (1 + (n : Int)), [], []⟩ : Packet) = some (zhq (zamk n)) := fun n => z55 (by simp) (by simp)
  generalize zej w i b = l at *
  have hsz : (zlr l f).size ≤ 71 := by
    unfold zlr
    cases f with
    | true => rw [if_pos rfl, znu (zamr (by omega)), z1r, zul]; simp [zamk]
    | false => rw [if_neg (by simp)]; exact hz
  refine ⟨?_, hsz⟩
  rw [zpe, zrr]
  unfold zlr
  unfold zaml at hz ⊢
  by_cases hl : l.Got < ((l.Said.length : Nat) : Int)
  · rw [if_pos hl, Tr.run_true (by simpa using hl), Tr.run_guard ⟨hg0, by show l.Got < ((l.Said.length : Nat) : Int); exact hl⟩]
    cases f with
    | true => rw [Tr.run_false (by rfl), if_pos rfl, Tr.run_bind (hE _), Tr.run_leaf]
    | false => rw [Tr.run_true (by rfl), if_neg (by simp), Tr.run_leaf]
  · rw [if_neg hl, Tr.run_false (by simpa using hl)]
    cases f with
    | true => rw [Tr.run_false (by rfl), if_pos rfl, Tr.run_bind (hE _), Tr.run_leaf]
    | false => rw [Tr.run_true (by rfl), if_neg (by simp), Tr.run_leaf]
theorem zai9 {w : Wld} (hf : FitPr 140737488351232 w.p) : zg2 w = some ((zlq w).2, (zlq w).1) := by
  rw [zg2, zez, zair hf, Tr.run_guard (by rfl)]
  simp only [Option.getD_some]
  unfold zlq
  by_cases h0 : (zjh w.p w.clock).2.2 = 0
  · rw [Tr.run_false (by simpa using h0), if_neg (by simpa using h0)]
    have turn : ∀ (c : Nat), c < 2 → ∀ (u : Wld) l z (p : za), (zbd l (c : Int) u z p).run = some (.inl (l, ((c + 1 : Nat) : Int), { u with heads := { u.heads with PHeight := u.heads.PHeight.set c p.Height, PTime := u.heads.PTime.set c p.Time, PSaid := u.heads.PSaid.set c (((p.Links.Said.get c).length : Nat) : Int), PGot := u.heads.PGot.set c (u.consumers.Got.get c) } }, z, p)) := by
      intro c hc u l z p
      simp only [zbd]
      rw [Tr.run_true (by simp; omega), Tr.run_guard ⟨by omega, by omega⟩, Tr.run_guard ⟨by omega, by omega⟩, Tr.run_guard ⟨by omega, by omega⟩, Tr.run_guard ⟨by omega, by omega⟩, Tr.run_leaf, zx (by omega)]
    have loop : ∀ l z, zfc l 0 { w with p := (zjh w.p w.clock).1 } z (zjh w.p w.clock).1 = some (l, { w with p := (zjh w.p w.clock).1, heads := zamj w.heads (zjh w.p w.clock).1 w.consumers }, z) := by
      intro l z
      generalize (zjh w.p w.clock).1 = p
      rw [zfc, zde (turn 0 (by omega) _ _ _ _), zde (turn 1 (by omega) _ _ _ _), ze4 (by
        show (zbd _ 2 _ _ _).run = _
        simp only [zbd]
        rw [Tr.run_false (by simp), Tr.run_leaf])]
      rfl
    rw [Tr.run_bind (v := ((zjh w.p w.clock).2.1, { w with p := (zjh w.p w.clock).1, heads := zamj w.heads (zjh w.p w.clock).1 w.consumers }, ⟨0, 0⟩)) (by exact loop _ _), Tr.run_leaf]
  · rw [Tr.run_true (by simpa using h0), if_pos h0, Tr.run_leaf]; rfl
theorem zafn {C : zcw} {i : Int} (hi : 0 ≤ i ∧ i < 2) (l : zeg) : ({ C with Said := C.Said.set i l.Said, Due := C.Due.set i l.Due, Got := C.Got.set i l.Got, Closed := C.Closed.set i l.Closed } : zcw) = znz C i { zc C i with Out := l } := by
  unfold znz zc
  simp only [zqn _ hi]
theorem zaja {w : Wld} (h : OkW w) {d : Deed} (hi : 0 ≤ d.C ∧ d.C < 2) : zg3 d w = some ((zsa w d).2, (zsa w d).1) := by
  rw [zg3, ze0, Tr.run_guard hi, Tr.run_guard hi]
  obtain ⟨t1, t2⟩ := zaug h hi d.Back d.Forged
  unfold zsa zoa
  cases hb : d.Back with
  | true =>
    rw [hb] at t1 t2
    have e0 : (zc w.consumers d.C).Out = zej w d.C true := rfl
    have e1 : w.consumers.Got.get d.C = (zej w d.C true).Got := rfl
    rw [Tr.run_true rfl, e0, Tr.run_bind t1, e1, z8j, Tr.run_guard (by rfl)]
    simp only [Option.getD_some]
    have es : zaa7 w d.C true = w.p.Links.SSaid.get d.C := rfl
    rw [← es]
    by_cases h0 : (zph (zej w d.C true) (IntKind.i64.wrap ((zej w d.C true).Got + 1)) (zlr (zej w d.C true) d.Forged) (zaa7 w d.C true) w.clock).2 = 0
    · rw [Tr.run_false (by simpa using h0), if_neg (by simpa using h0), Tr.run_true rfl, if_pos trivial, zafd h.fit (by omega), Tr.run_guard (by rfl)]
      simp only [Option.getD_some]
      by_cases h1 : (zol w.p d.C (zlr (zej w d.C true) d.Forged).data.toList).2 = 0
      · rw [Tr.run_false (by simpa using h1), if_neg (by simpa using h1), Tr.run_leaf, zafn hi]
      · rw [Tr.run_true (by simpa using h1), if_pos h1, Tr.run_leaf]; rfl
    · rw [Tr.run_true (by simpa using h0), if_pos h0, Tr.run_leaf]; rfl
  | false =>
    rw [hb] at t1 t2
    have e0 : (zh w.p.Links d.C).Out = zej w d.C false := rfl
    have e1 : w.p.Links.Got.get d.C = (zej w d.C false).Got := rfl
    rw [Tr.run_false rfl, e0, Tr.run_bind t1, e1, z8j, Tr.run_guard (by rfl)]
    simp only [Option.getD_some]
    have es : zaa7 w d.C false = w.consumers.SSaid.get d.C := rfl
    rw [← es]
    by_cases h0 : (zph (zej w d.C false) (IntKind.i64.wrap ((zej w d.C false).Got + 1)) (zlr (zej w d.C false) d.Forged) (zaa7 w d.C false) w.clock).2 = 0
    · rw [Tr.run_false (by simpa using h0), if_neg (by simpa using h0), Tr.run_false rfl, if_neg (by simp), Tr.run_bind (zat5 ((h.c d.C hi).fit h.d1) (by omega))]
      by_cases h1 : (zxg (zc w.consumers d.C) (zlr (zej w d.C false) d.Forged).data.toList).2 = 0
      · rw [Tr.run_false (by simpa using h1), if_neg (by simpa using h1), Tr.run_leaf]; rfl
      · rw [Tr.run_true (by simpa using h1), if_pos h1, Tr.run_leaf]; rfl
    · rw [Tr.run_true (by simpa using h0), if_pos h0, Tr.run_leaf]; rfl
theorem zams {w : Wld} (h : OkW w) {d : Deed} (hi : 0 ≤ d.C ∧ d.C < 2) : zho d w = some ((zxi w d).2, (zxi w d).1) := by
  rw [zho, zfj, Tr.run_guard hi, Tr.run_guard hi]
  have hr := zaa6 h.fit (c := d.C)
  unfold zxi zaa8
  cases hb : d.Back with
  | true =>
    rw [Tr.run_true rfl, if_pos rfl, Tr.run_bind (zach _ _ _ _)]
    by_cases h0 : (z2f (zc w.consumers d.C).Out d.N (w.consumers.STime.get d.C) (w.consumers.SGot.get d.C)).2 = 0
    · rw [Tr.run_false (by simpa using h0), if_neg (by simpa using h0), hr, Tr.run_guard (by rfl), Tr.run_bind zacy, Tr.run_leaf]; rfl
    · rw [Tr.run_true (by simpa using h0), if_pos h0, Tr.run_leaf]; rfl
  | false =>
    rw [Tr.run_false rfl, if_neg (show ¬ (false = true) by simp), Tr.run_bind (zach _ _ _ _)]
    by_cases h0 : (z2f (zh w.p.Links d.C).Out d.N (w.p.Links.STime.get d.C) (w.p.Links.SGot.get d.C)).2 = 0
    · rw [Tr.run_false (by simpa using h0), if_neg (by simpa using h0), hr, Tr.run_guard (by rfl), Tr.run_bind zacy, Tr.run_leaf]; rfl
    · rw [Tr.run_true (by simpa using h0), if_pos h0, Tr.run_leaf]; rfl
end Go.Proofs.YtmakmlnfbdablaaGreat.Ab
namespace Go.Proofs.YtmakmlnfbdablaaGreat.Ab
open Go Go.RowKit
set_option linter.unusedVariables false
set_option linter.unusedSimpArgs false
theorem zajb {w : Wld} (h : OkW w) {d : Deed} : zg4 d w = some ((zsb w d).2, (zsb w d).1) := by
  rw [zg4, ze1]
  unfold zsb
  by_cases c1 : d.Kind < 4 ∨ 12 < d.Kind
  · rw [if_pos c1, Tr.run_true (by simpa using c1), Tr.run_leaf]; rfl
  rw [if_neg c1, Tr.run_false (by simp; omega)]
  by_cases c2 : d.C < 0 ∨ 2 ≤ d.C
  · rw [if_pos c2, Tr.run_true (by simpa using c2), Tr.run_leaf]; rfl
  have hi : 0 ≤ d.C ∧ d.C < 2 := by omega
  have hw := h.c d.C hi
  have hfc := hw.fit h.d1
  rw [if_neg c2, Tr.run_false (by simp; omega), Tr.run_guard hi]
  by_cases c3 : d.Kind ≠ 4 ∧ w.consumers.On.get d.C = false
  · rw [if_pos c3, Tr.run_true (by simpa using c3), Tr.run_leaf]; rfl
  rw [if_neg c3, Tr.run_false (by
    rw [Bool.eq_false_iff]; intro k; apply c3; simpa using k)]
  by_cases c4 : d.Kind = 4
  · rw [if_pos c4, Tr.run_true (by simpa using c4), zac6 h.fit, Tr.run_guard (by rfl)]
    simp only [Option.getD_some]
    unfold z3q
    by_cases h0 : (zep w.p d.C).2 = 0
    · obtain ⟨f1, _, f3, f4, f5, f6, f7⟩ := zz8 h0
      have hs : (zep w.p d.C).1.Set.length * 16 ≤ 140737488355328 := by rw [f7]; have := h.fit.set; show w.p.Set.length * 16 ≤ _; omega
      rw [Tr.run_false (by simpa using h0), if_neg (by simpa using h0), zapd hs, Tr.run_guard (by rfl), Tr.run_guard hi, Tr.run_leaf]
      rfl
    · rw [Tr.run_true (by simpa using h0), if_pos h0, Tr.run_leaf]; rfl
  rw [if_neg c4, Tr.run_false (by simpa using c4)]
  have hsz := hw.size; have hd1 := h.d1
  by_cases c7 : d.Kind = 7
  · have he : zy (zc w.consumers d.C) w.clock = some (z8t w.clock (zc w.consumers d.C)) := zazq hfc (by omega)
    rw [if_pos c7, Tr.run_true (by simpa using c7), he, Tr.run_guard (by rfl)]
    simp only [Option.getD_some]
    unfold zx1
    by_cases h0 : (z8t w.clock (zc w.consumers d.C)).2 = 0
    · rw [Tr.run_true (by simpa using h0), Tr.run_guard hi, Tr.run_guard hi, Tr.run_guard (by omega), Tr.run_false (by simpa using h0), if_neg (by simpa using h0), Tr.run_leaf]; rfl
    · rw [Tr.run_false (by simpa using h0), Tr.run_true (by simpa using h0), if_pos h0, Tr.run_leaf]; rfl
  rw [if_neg c7, Tr.run_false (by simpa using c7)]
  by_cases c8 : d.Kind = 8
  · rw [if_pos c8, Tr.run_true (by simpa using c8)]
    unfold z81
    cases hb : d.Back with
    | true =>
      rw [Tr.run_true rfl, if_pos rfl, Tr.run_guard hi, Tr.run_guard (by omega), Tr.run_guard hi, Tr.run_false rfl, Tr.run_leaf, zadb hi]; rfl
    | false =>
      rw [Tr.run_false rfl, if_neg (show ¬ (false = true) by simp), Tr.run_guard hi, Tr.run_guard (by omega), Tr.run_false rfl, Tr.run_leaf]; rfl
  rw [if_neg c8, Tr.run_false (by simpa using c8)]
  by_cases c9 : d.Kind = 9
  · rw [if_pos c9, Tr.run_true (by simpa using c9), Tr.run_bind (zaja h hi), Tr.run_leaf]
  rw [if_neg c9, Tr.run_false (by simpa using c9)]
  by_cases c10 : d.Kind = 10
  · rw [if_pos c10, Tr.run_true (by simpa using c10), Tr.run_bind (zams h hi), Tr.run_leaf]
  rw [if_neg c10, Tr.run_false (by simpa using c10)]
  by_cases c11 : d.Kind = 11
  · rw [if_pos c11, Tr.run_true (by simpa using c11), zat6 hfc, Tr.run_guard (by rfl)]
    simp only [Option.getD_some]
    unfold putW
    by_cases h0 : (z6k (zc w.consumers d.C) d.V w.clock).2 = 0
    · rw [Tr.run_false (by simpa using h0), if_neg (by simpa using h0), Tr.run_leaf]
    · rw [Tr.run_true (by simpa using h0), if_pos h0, Tr.run_leaf]; rfl
  rw [if_neg c11, Tr.run_false (by simpa using c11)]
  by_cases c12 : d.Kind = 12
  · rw [if_pos c12, Tr.run_true (by simpa using c12), zal1 hfc, Tr.run_guard (by rfl)]
    simp only [Option.getD_some]
    unfold putW
    by_cases h0 : (zsm (zc w.consumers d.C) d.V d.N w.clock).2 = 0
    · rw [Tr.run_false (by simpa using h0), if_neg (by simpa using h0), Tr.run_leaf]
    · rw [Tr.run_true (by simpa using h0), if_pos h0, Tr.run_leaf]; rfl
  rw [if_neg c12, Tr.run_false (by simpa using c12), Tr.run_false rfl, Tr.run_leaf, zadb hi]
theorem zajc {w : Wld} (h : OkW w) {d : Deed} (hn : d.N ≤ 9223372036854775807) : zbj d w = some ((doW w d).2, (doW w d).1) := by
  rw [zbj, zjr]
  unfold doW
  by_cases c0 : 600 ≤ w.deeds
  · rw [if_pos c0, Tr.run_true (by simpa using c0), Tr.run_leaf]; rfl
  have hd : w.deeds < 600 := by omega
  have hd0 := h.d0
  have hw : IntKind.i64.wrap (w.deeds + 1) = w.deeds + 1 := zn (by omega) (by omega)
  have hm := zls h hd
  rw [if_neg c0, Tr.run_false (by simpa using c0), hw]
  have e0 : ({ w with deeds := w.deeds + 1 } : Wld) = zba w := rfl
  unfold actW
  by_cases c1 : d.Kind = 1
  · rw [if_pos c1, Tr.run_true (by simpa using c1), Tr.run_bind (z6m h.fit hn)]
    unfold zsn
    by_cases h0 : (zdq w.p d.D d.V d.N).2 = 0
    · rw [Tr.run_false (by simpa using h0), if_neg (by show ¬ (zdq w.p d.D d.V d.N).2 ≠ 0; simpa using h0), Tr.run_leaf]; rfl
    · rw [Tr.run_true (by simpa using h0), if_pos (by exact h0), Tr.run_leaf]; rfl
  rw [if_neg c1, Tr.run_false (by simpa using c1)]
  by_cases c2 : d.Kind = 2
  · rw [if_pos c2, Tr.run_true (by simpa using c2), z2n h.fit hn, Tr.run_guard (by rfl)]
    simp only [Option.getD_some]
    unfold zsn
    by_cases h0 : (zdg w.p d.D d.V d.N w.clock).2 = 0
    · rw [Tr.run_false (by simpa using h0), if_neg (by show ¬ (zdg w.p d.D d.V d.N w.clock).2 ≠ 0; simpa using h0), Tr.run_leaf]; rfl
    · rw [Tr.run_true (by simpa using h0), if_pos (by exact h0), Tr.run_leaf]; rfl
  rw [if_neg c2, Tr.run_false (by simpa using c2)]
  by_cases c3 : d.Kind = 3
  · rw [if_pos c3, Tr.run_true (by simpa using c3), Tr.run_bind zalo]
    unfold zsn
    by_cases h0 : (zbs w.p.Stake d.V 1).2 = 0
    · rw [Tr.run_false (by simpa using h0), if_neg (by show ¬ (zbs w.p.Stake d.V 1).2 ≠ 0; simpa using h0), Tr.run_leaf]; rfl
    · rw [Tr.run_true (by simpa using h0), if_pos (by exact h0), Tr.run_leaf]; rfl
  rw [if_neg c3, Tr.run_false (by simpa using c3)]
  by_cases c13 : d.Kind = 13
  · rw [if_pos c13, Tr.run_true (by simpa using c13), Tr.run_bind (z6q h.fit)]
    unfold zsn
    by_cases h0 : (zxh w.p d.V d.N).2 = 0
    · rw [Tr.run_false (by simpa using h0), if_neg (by show ¬ (zxh w.p d.V d.N).2 ≠ 0; simpa using h0), Tr.run_leaf]; rfl
    · rw [Tr.run_true (by simpa using h0), if_pos (by exact h0), Tr.run_leaf]; rfl
  rw [if_neg c13, Tr.run_false (by simpa using c13)]
  by_cases c5 : d.Kind = 5
  · rw [if_pos c5, Tr.run_true (by simpa using c5)]
    have t0 := h.t0; have t1 := h.t1
    have h1 : IntKind.i64.wrap (1099511627736 - w.clock) = 1099511627736 - w.clock := zn (by omega) (by omega)
    rw [h1]
    unfold zaiz
    by_cases h0 : d.N < 1 ∨ 1099511627736 - w.clock < d.N
    · rw [Tr.run_true (by simpa using h0), if_pos (by exact h0), Tr.run_leaf]; rfl
    · have h2 : IntKind.i64.wrap (w.clock + d.N) = w.clock + d.N := zn (by omega) (by omega)
      rw [Tr.run_false (by simp; omega), if_neg (by exact h0), Tr.run_leaf, h2]; rfl
  rw [if_neg c5, Tr.run_false (by simpa using c5)]
  by_cases c6 : d.Kind = 6
  · rw [if_pos c6, Tr.run_true (by simpa using c6), e0, Tr.run_bind (zai9 hm.fit), Tr.run_leaf]
  rw [if_neg c6, Tr.run_false (by simpa using c6), e0, Tr.run_bind (zajb hm), Tr.run_leaf]
def stk7 : Stake := ⟨⟨⟨99300, 100000, 100000, 100000⟩, 700, 0, 0⟩, { zazn with Tokens := ⟨700, 0, 0, 0, 0, 0⟩, Shares := ⟨700, 0, 0, 0, 0, 0⟩ }, ⟨⟨700, 0, 0, 0, 0, 0⟩, ⟨0, 0, 0, 0, 0, 0⟩, ⟨0, 0, 0, 0, 0, 0⟩, ⟨0, 0, 0, 0, 0, 0⟩⟩, [], 1⟩
theorem zamt : GoodS stk7 := by decide
theorem zadi : zbr newS 0 0 700 = (stk7, 0) := by
  have h : zf6 newS 0 0 = 0 := by
    unfold zf6
    rw [if_neg (by simpa using zalv), if_neg (by omega)]
  unfold zbr
  rw [if_neg (by simpa using h), if_neg (by decide), if_neg (by omega), if_neg (by decide), if_neg (by decide), if_neg (by decide), if_neg (by decide)]
  rfl
theorem zamu : setS stk7 = [⟨0, 7⟩] := by rfl
def p7 : za := { zac1 with Stake := stk7 }
def p8 : za := ⟨1, 5, stk7, [⟨0, 7⟩], default, zaio (newM 0 0) (allP []) 5, []⟩
theorem zauh : zad p7 = true := by decide
theorem zaui : zad p8 = true := by decide
theorem zafo : zdq zac1 0 0 700 = (p7, 0) := by
  unfold zdq
  rw [if_pos z8x]
  show (if (zbr newS 0 0 700).2 ≠ 0 then _ else (({ zac1 with Stake := (zbr newS 0 0 700).1 } : za), (0 : Int))) = _
  rw [zadi]; rfl
theorem zazy : zjh p7 5 = (p8, [], 0) := by
  have hpay : z7u stk7 5 = (stk7, [], 0) := by unfold z7u; rw [if_neg (by simpa using zamt)]; rfl
  unfold zjh
  rw [if_pos ⟨zauh, by decide, by decide⟩]
  have hp : zpj p7 5 = p8 := by
    unfold zpj
    show ({ zvi p7 5 with Stake := (z7u stk7 5).1, Set := setS (z7u stk7 5).1, Queue := [] } : za) = _
    rw [hpay, zamu]; rfl
  rw [hp, zahc (p := p8) (c := 0) rfl, zahc (p := p8) (c := 1) rfl]
  show (p8, (z7u stk7 5).2.1, (0 : Int)) = _
  rw [hpay]
def w1 : Wld := ⟨0, p7, default, default, 1⟩
def w2 : Wld := ⟨5, p7, default, default, 2⟩
def w3 : Wld := ⟨5, p8, default, zamj default p8 default, 3⟩
theorem do_1 : doW newW ⟨1, 0, 0, 0, 700, false, false⟩ = (w1, ⟨0, 0⟩) := by
  show zsn (zba newW) (zdq zac1 0 0 700) = _
  rw [zafo]; rfl
theorem do_2 : doW w1 ⟨5, 0, 0, 0, 5, false, false⟩ = (w2, ⟨0, 5⟩) := by rfl
theorem do_3 : doW w2 ⟨6, 0, 0, 0, 0, false, false⟩ = (w3, ⟨0, 0⟩) := by
  show zlq (zba w2) = _
  unfold zlq
  have e : zjh (zba w2).p (zba w2).clock = (p8, [], 0) := zazy
  rw [e]; rfl
theorem do_4 : (doW w3 ⟨4, 0, 0, 0, 0, false, false⟩).2.N = 1 ∧ (doW w3 ⟨4, 0, 0, 0, 0, false, false⟩).1.clock = 5 ∧ (zc (doW w3 ⟨4, 0, 0, 0, 0, false, false⟩).1.consumers 0).Set = [⟨0, 7⟩] := by
  have hb : zep p8 0 = (zom p8 0 (p8.Stake.Waits.map (zji 0 p8.Height)) (zxz p8), 0) := by
    unfold zep
    rw [if_neg (by rw [zaui]; simp), if_pos (by omega), if_neg (by decide), if_neg (by decide), if_neg (by decide)]
  have e : doW w3 ⟨4, 0, 0, 0, 0, false, false⟩ = z3q (zba w3) 0 := rfl
  rw [e]
  unfold z3q
  have e2 : zep (zba w3).p 0 = (zom p8 0 (p8.Stake.Waits.map (zji 0 p8.Height)) (zxz p8), 0) := hb
  rw [e2]
  exact ⟨rfl, rfl, rfl⟩
theorem okW1 : OkW w1 := by have := z61 zaa9 ⟨1, 0, 0, 0, 700, false, false⟩; rw [do_1] at this; exact this
theorem okW2 : OkW w2 := by have := z61 okW1 ⟨5, 0, 0, 0, 5, false, false⟩; rw [do_2] at this; exact this
theorem okW3 : OkW w3 := by have := z61 okW2 ⟨6, 0, 0, 0, 0, false, false⟩; rw [do_3] at this; exact this
theorem okW4 : OkW (doW w3 ⟨4, 0, 0, 0, 0, false, false⟩).1 := z61 okW3 _
end Go.Proofs.YtmakmlnfbdablaaGreat.Ab
namespace Go.Proofs.YtmakmlnfbdablaaGreat.Ab
open Go Go.RowKit
set_option linter.unusedVariables false
set_option linter.unusedSimpArgs false
structure Alike (w w' : Wld) : Prop where
  p : w'.p = w.p
  c : w'.consumers = w.consumers
  t : w'.clock = w.clock
theorem Alike.refl (w : Wld) : Alike w w := ⟨rfl, rfl, rfl⟩
theorem Alike.more (w : Wld) : Alike w (zba w) := ⟨rfl, rfl, rfl⟩
def zamv (w : Wld) (s : Stake) : Wld := { zba w with p := { w.p with Stake := s } }
def zazz (w : Wld) (s : Stake) : Wld := { zba w with p := { w.p with Stake := s, Links := zac2 w.p.Links } }
def zbai (w : Wld) (n : Int) : Wld := { zba w with clock := w.clock + n }
def zzg (w : Wld) : Wld := { zba w with p := (zjh w.p w.clock).1, heads := zamj w.heads (zjh w.p w.clock).1 w.consumers }
def zafp (w : Wld) (i : Int) : Wld := { zba w with p := zom w.p i (w.p.Stake.Waits.map (zji i w.p.Height)) (zxz w.p), consumers := znz w.consumers i (zrw w.p.Set w.p.Height w.clock), heads := zaq4 w.heads i }
def zajd (w : Wld) (i : Int) (c : zb) : Wld := { zba w with consumers := znz w.consumers i c }
def zauj (w : Wld) (i : Int) : Wld := { zba w with p := { w.p with Links := z2p w.p.Links i (zapq w.heads i) } }
def zafq (w : Wld) (i : Int) : Wld := { zajd w i (z8t w.clock (zc w.consumers i)).1 with heads := zazw w.heads i (z8t w.clock (zc w.consumers i)).1 (w.p.Links.Got.get i) }
def gotB (w : Wld) (i : Int) (q : Packet) : Wld := { zajd w i { zc w.consumers i with Out := { (zc w.consumers i).Out with Got := (zc w.consumers i).Out.Got + 1 } } with p := { w.p with Queue := w.p.Queue ++ [⟨i, q⟩] } }
def gotF (w : Wld) (i : Int) (q : Packet) : Wld := { zajd w i { zc w.consumers i with Pending := (zc w.consumers i).Pending ++ [q] } with p := { w.p with Links := z3p w.p.Links i { (zh w.p.Links i).Out with Got := (zh w.p.Links i).Out.Got + 1 } } }
def zafr (w : Wld) (i : Int) : Wld := { zajd w i { zc w.consumers i with On := false, Gone := true, Out := { (zc w.consumers i).Out with Closed := true } } with p := zuq w.p i }
def zamw (w : Wld) (i : Int) (q : Packet) (f : A6 Bool) : zb := { zc w.consumers i with Out := { (zc w.consumers i).Out with Said := (zc w.consumers i).Out.Said ++ [txt (zqr q)], Due := (zc w.consumers i).Out.Due ++ [w.clock + 40] }, Flags := f }
structure zauk (w : Wld) (i : Int) (b : Bool) (q : Packet) : Prop where
  good : ze5 (zej w i b)
  opened : (zej w i b).Closed = false
  got : (zej w i b).Got.toNat < (zej w i b).Said.length
  seen : (zej w i b).Got + 1 ≤ zaa7 w i b
  text : (zej w i b).Said.getD (zej w i b).Got.toNat .empty = txt (zqr q)
  time : w.clock < (zej w i b).Due.getD (zej w i b).Got.toNat 0
  pk : zeb q = 0
theorem z4o {w : Wld} (h : OkW w) (hd : w.deeds < 600) (d : Deed) {P : Wld → Reply → Prop}
    (hno : ∀ w' r, Alike w w' → r.Code ≠ 0 → P w' r)
    (hdel : d.Kind = 1 → (zbr w.p.Stake d.D d.V d.N).2 = 0 → P (zamv w (zbr w.p.Stake d.D d.V d.N).1) ⟨0, 0⟩)
    (hund : d.Kind = 2 → (zau w.p.Stake d.D d.V d.N (z6n w.p w.clock)).2 = 0 → P (zazz w (zau w.p.Stake d.D d.V d.N (z6n w.p w.clock)).1) ⟨0, 0⟩)
    (hunj : d.Kind = 3 → (zbs w.p.Stake d.V 1).2 = 0 → P (zamv w (zbs w.p.Stake d.V 1).1) ⟨0, 0⟩)
    (hevi : d.Kind = 13 → (0 ≤ d.V ∧ d.V < 6) → (1 ≤ d.N ∧ d.N ≤ w.p.Height) → w.p.Stake.Validators.Dead.get d.V = false → P (zamv w (zbs (zgt w.p.Stake d.V d.N 50).1 d.V 2).1) ⟨0, 0⟩)
    (htick : d.Kind = 5 → 1 ≤ d.N → d.N ≤ 1099511627736 - w.clock → P (zbai w d.N) ⟨0, w.clock + d.N⟩)
    (hprov : d.Kind = 6 → P (zzg w) ⟨0, (((zjh w.p w.clock).2.1.length : Nat) : Int)⟩)
    (hbeg : d.Kind = 4 → (0 ≤ d.C ∧ d.C < 2) → w.p.Links.Gone.get d.C = false → w.p.Links.On.get d.C = false → 1 ≤ w.p.Height → w.p.Set.length ≠ 0 → P (zafp w d.C) ⟨0, w.p.Height⟩)
    (hcons : d.Kind = 7 → (0 ≤ d.C ∧ d.C < 2) → (zc w.consumers d.C).On = true → P (zafq w d.C) ⟨0, 0⟩)
    (hseen : d.Kind = 8 → (0 ≤ d.C ∧ d.C < 2) → (zc w.consumers d.C).On = true → d.Back = true → P (zauj w d.C) ⟨0, 0⟩)
    (hsee : d.Kind = 8 → (0 ≤ d.C ∧ d.C < 2) → (zc w.consumers d.C).On = true → d.Back = false → P (zajd w d.C { zc w.consumers d.C with Seen := zaiy w.heads d.C }) ⟨0, 0⟩)
    (hback : ∀ q, d.Kind = 9 → (0 ≤ d.C ∧ d.C < 2) → (zc w.consumers d.C).On = true → d.Back = true → zauk w d.C true q → q.Kind ≠ 1 → P (gotB w d.C q) ⟨0, (zc w.consumers d.C).Out.Got + 1⟩)
    (hforth : ∀ q, d.Kind = 9 → (0 ≤ d.C ∧ d.C < 2) → (zc w.consumers d.C).On = true → d.Back = false → zauk w d.C false q → q.Kind = 1 → P (gotF w d.C q) ⟨0, (zh w.p.Links d.C).Out.Got + 1⟩)
    (hlate : d.Kind = 10 → (0 ≤ d.C ∧ d.C < 2) → (zc w.consumers d.C).On = true → (zaa8 w d).2 = 0 → P (zafr w d.C) ⟨0, 0⟩)
    (hsay : ∀ q f, (d.Kind = 11 ∨ d.Kind = 12) → (0 ≤ d.C ∧ d.C < 2) → (zc w.consumers d.C).On = true → zeb q = 0 → (q.Kind = 3 ∧ q.Id = (zc w.consumers d.C).Id ∨ q.Kind = 4 ∧ q.Id ≤ (zc w.consumers d.C).Id) → (zc w.consumers d.C).Out.Closed = false → (zc w.consumers d.C).Out.Said.length < 400 → P (zajd w d.C (zamw w d.C q f)) ⟨0, 0⟩) :
    P (doW w d).1 (doW w d).2 := by
  have hm := zls h hd
  have no : ∀ e : Int, e ≠ 0 → P (noW (zba w) e).1 (noW (zba w) e).2 := fun e he => hno _ _ (.more w) he
  unfold doW
  rw [if_neg (by omega)]
  unfold actW
  by_cases c1 : d.Kind = 1
  · rw [if_pos c1]
    unfold zsn
    have e : zdq (zba w).p d.D d.V d.N = zdq w.p d.D d.V d.N := rfl
    by_cases h0 : (zdq w.p d.D d.V d.N).2 = 0
    · rw [e, if_neg (by simpa using h0)]
      unfold zdq at h0 ⊢
      rw [if_pos h.pr] at h0 ⊢
      by_cases h1 : (zbr w.p.Stake d.D d.V d.N).2 = 0
      · rw [if_neg (by simpa using h1)]; exact hdel c1 h1
      · rw [if_pos h1] at h0; exact absurd h0 h1
    · rw [e, if_pos h0]; exact no _ h0
  rw [if_neg c1]
  by_cases c2 : d.Kind = 2
  · rw [if_pos c2]
    unfold zsn
    have e : zdg (zba w).p d.D d.V d.N (zba w).clock = zdg w.p d.D d.V d.N w.clock := rfl
    by_cases h0 : (zdg w.p d.D d.V d.N w.clock).2 = 0
    · rw [e, if_neg (by simpa using h0)]
      unfold zdg at h0 ⊢
      have ht : zad w.p = true ∧ 0 ≤ w.clock ∧ w.clock ≤ 1099511627776 := ⟨h.pr, h.t0, by have := h.t1; omega⟩
      rw [if_pos ht] at h0 ⊢
      by_cases h1 : (zau w.p.Stake d.D d.V d.N (z6n w.p w.clock)).2 = 0
      · rw [if_neg (by simpa using h1)]; exact hund c2 h1
      · rw [if_pos h1] at h0; exact absurd h0 h1
    · rw [e, if_pos h0]; exact no _ h0
  rw [if_neg c2]
  by_cases c3 : d.Kind = 3
  · rw [if_pos c3]
    unfold zsn
    by_cases h0 : (zbs w.p.Stake d.V 1).2 = 0
    · rw [if_neg (by show ¬ (zbs w.p.Stake d.V 1).2 ≠ 0; simpa using h0)]; exact hunj c3 h0
    · rw [if_pos (by exact h0)]; exact no _ h0
  rw [if_neg c3]
  by_cases c13 : d.Kind = 13
  · rw [if_pos c13]
    unfold zsn
    have e : zxh (zba w).p d.V d.N = zxh w.p d.V d.N := rfl
    by_cases h0 : (zxh w.p d.V d.N).2 = 0
    · rw [e, if_neg (by simpa using h0)]
      unfold zxh at h0 ⊢
      rw [if_neg (by rw [h.pr]; simp)] at h0 ⊢
      by_cases h1 : 0 ≤ d.V ∧ d.V < 6
      · rw [if_pos h1] at h0 ⊢
        by_cases h2 : 1 ≤ d.N ∧ d.N ≤ w.p.Height
        · rw [if_pos h2] at h0 ⊢
          by_cases h3 : w.p.Stake.Validators.Dead.get d.V = true
          · rw [if_pos h3] at h0; cases h0
          · rw [if_neg h3]; exact hevi c13 h1 h2 (Bool.eq_false_iff.2 h3)
        · rw [if_neg h2] at h0; cases h0
      · rw [if_neg h1] at h0; cases h0
    · rw [e, if_pos h0]; exact no _ h0
  rw [if_neg c13]
  by_cases c5 : d.Kind = 5
  · rw [if_pos c5]
    unfold zaiz
    by_cases h0 : d.N < 1 ∨ 1099511627736 - w.clock < d.N
    · rw [if_pos (by exact h0)]; exact no _ (by omega)
    · rw [if_neg (by exact h0)]; exact htick c5 (by omega) (by omega)
  rw [if_neg c5]
  by_cases c6 : d.Kind = 6
  · rw [if_pos c6]
    have ht : zad w.p = true ∧ w.p.Time ≤ w.clock ∧ w.clock ≤ 1099511627776 := ⟨h.pr, h.pt, by have := h.t1; omega⟩
    unfold zlq
    rw [if_neg (by show ¬ (zjh w.p w.clock).2.2 ≠ 0; rw [zaff ht]; simp)]
    exact hprov c6
  rw [if_neg c6]
  unfold zsb
  by_cases b1 : d.Kind < 4 ∨ 12 < d.Kind
  · rw [if_pos b1]; exact no _ (by omega)
  rw [if_neg b1]
  by_cases b2 : d.C < 0 ∨ 2 ≤ d.C
  · rw [if_pos b2]; exact no _ (by omega)
  rw [if_neg b2]
  have hi : 0 ≤ d.C ∧ d.C < 2 := by omega
  by_cases b3 : d.Kind ≠ 4 ∧ (zba w).consumers.On.get d.C = false
  · rw [if_pos b3]; exact no _ (by omega)
  rw [if_neg b3]
  by_cases b4 : d.Kind = 4
  · rw [if_pos b4]
    unfold z3q
    have e : zep (zba w).p d.C = zep w.p d.C := rfl
    rw [e]
    by_cases h0 : (zep w.p d.C).2 = 0
    · obtain ⟨f1, _, f3, f4, f5, f6, f7⟩ := zz8 h0
      rw [if_neg (by simpa using h0), f7]
      exact hbeg b4 hi f3 f4 f5 f6
    · rw [if_pos h0]; exact no _ h0
  rw [if_neg b4]
  have ho : (zc w.consumers d.C).On = true := by
    cases e : (zc w.consumers d.C).On with
    | true => rfl
    | false => exact absurd ⟨b4, e⟩ b3
  have hw := h.c d.C hi
  have hh := hw.height
  by_cases b7 : d.Kind = 7
  · rw [if_pos b7]
    obtain ⟨e0, -⟩ := z2q (now := w.clock) hw.good ho ⟨hw.time, by have := h.t1; omega⟩ (by omega)
    unfold zx1
    rw [if_neg (by show ¬ (z8t w.clock (zc w.consumers d.C)).2 ≠ 0; rw [e0]; simp)]
    exact hcons b7 hi ho
  rw [if_neg b7]
  by_cases b8 : d.Kind = 8
  · rw [if_pos b8]
    unfold z81
    cases hb : d.Back with
    | true => rw [if_pos rfl]; exact hseen b8 hi ho hb
    | false => rw [if_neg (by simp)]; exact hsee b8 hi ho hb
  rw [if_neg b8]
  by_cases b9 : d.Kind = 9
  · rw [if_pos b9]
    unfold zsa
    have e1 : zoa (zba w) d = zoa w d := rfl
    rw [e1]
    by_cases h0 : (zoa w d).2 = 0
    · obtain ⟨f1, f2, f3, f4, f5, f6, f7, f8⟩ := z83 h0
      rw [if_neg (by simpa using h0)]
      have hg0 : 0 ≤ (zej w d.C d.Back).Got := f1.2.2.1
      have hmem : ∃ q, zeb q = 0 ∧ (zej w d.C d.Back).Said.getD (zej w d.C d.Back).Got.toNat .empty = txt (zqr q) := by
        have hm := zfk (l := (zej w d.C d.Back).Said) (k := (zej w d.C d.Back).Got.toNat) (by omega) .empty
        generalize (zej w d.C d.Back).Said.getD (zej w d.C d.Back).Got.toNat .empty = s at hm
        cases hb : d.Back with
        | true => rw [hb] at hm; obtain ⟨q, q1, _, q2⟩ := hw.said s hm; exact ⟨q, q1, q2⟩
        | false => rw [hb] at hm; obtain ⟨q, q1, _, q2⟩ := hw.told s hm; exact ⟨q, q1, q2⟩
      obtain ⟨q, q1, q2⟩ := hmem
      have ht : (zlr (zej w d.C d.Back) d.Forged).data.toList = zqr q := by rw [f5, q2, z2g]
      have hcm : zauk w d.C d.Back q := ⟨f1, f2, by omega, f4, q2, f6, q1⟩
      cases hb : d.Back with
      | true =>
        rw [hb] at ht hcm f7
        rw [if_pos rfl]
        have e2 : zol (zba w).p d.C (zlr (zej (zba w) d.C true) d.Forged).data.toList = zol w.p d.C (zqr q) := by rw [← ht]; rfl
        rw [e2]
        by_cases h1 : (zol w.p d.C (zqr q)).2 = 0
        · obtain ⟨_, _, _, q4, _, q6, _⟩ := z3r h.pr h1
          rw [z58 q1] at q4 q6
          rw [if_neg (by simpa using h1), q6, f7]
          exact hback q b9 hi ho hb hcm q4
        · rw [if_pos h1]; exact no _ h1
      | false =>
        rw [hb] at ht hcm f7
        rw [if_neg (show ¬ (false = true) by simp)]
        have e2 : zxg (zc (zba w).consumers d.C) (zlr (zej (zba w) d.C false) d.Forged).data.toList = zxg (zc w.consumers d.C) (zqr q) := by rw [← ht]; rfl
        rw [e2]
        by_cases h1 : (zxg (zc w.consumers d.C) (zqr q)).2 = 0
        · obtain ⟨_, _, q4, _, q6, _⟩ := z60 hw.good h1
          rw [z58 q1] at q4 q6
          rw [if_neg (by simpa using h1), q6, f7]
          exact hforth q b9 hi ho hb hcm q4
        · rw [if_pos h1]; exact no _ h1
    · rw [if_pos h0]; exact no _ h0
  rw [if_neg b9]
  by_cases b10 : d.Kind = 10
  · rw [if_pos b10]
    unfold zxi
    have e1 : zaa8 (zba w) d = zaa8 w d := rfl
    rw [e1]
    by_cases h0 : (zaa8 w d).2 = 0
    · obtain ⟨f1, f2⟩ := zade h hi ho
      have e2 : zur (zba w).p d.C = zuq w.p d.C := f1
      have e3 : zz5 (zc (zba w).consumers d.C) = { zc w.consumers d.C with On := false, Gone := true, Out := { (zc w.consumers d.C).Out with Closed := true } } := f2
      rw [if_neg (by simpa using h0), e2, e3]
      exact hlate b10 hi ho h0
    · rw [if_pos h0]; exact no _ h0
  rw [if_neg b10]
  have hw40 : IntKind.i64.wrap (w.clock + 40) = w.clock + 40 := zn (by have := h.t0; omega) (by have := h.t1; omega)
  by_cases b11 : d.Kind = 11
  · rw [if_pos b11]
    unfold putW
    have e1 : z6k (zc (zba w).consumers d.C) d.V (zba w).clock = z6k (zc w.consumers d.C) d.V w.clock := rfl
    rw [e1]
    by_cases h0 : (z6k (zc w.consumers d.C) d.V w.clock).2 = 0
    · obtain ⟨_, _, _, _, _, _, _, hs, he⟩ := zag3 h0
      obtain ⟨s1, s2, s3, s4, s5, s6⟩ := z6z hw.good (by simp) hs
      rw [if_neg (by simpa using h0), he, s5, hw40]
      exact hsay _ _ (.inl b11) hi ho s1 (.inl ⟨rfl, rfl⟩) s3 s4
    · rw [if_pos h0]; exact no _ h0
  rw [if_neg b11]
  by_cases b12 : d.Kind = 12
  · rw [if_pos b12]
    unfold putW
    have e1 : zsm (zc (zba w).consumers d.C) d.V d.N (zba w).clock = zsm (zc w.consumers d.C) d.V d.N w.clock := rfl
    rw [e1]
    by_cases h0 : (zsm (zc w.consumers d.C) d.V d.N w.clock).2 = 0
    · rw [if_neg (by simpa using h0)]
      unfold zsm at h0 ⊢
      by_cases h1 : zki (zc w.consumers d.C) = false ∨ w.clock < 0 ∨ 1099511627776 < w.clock
      · rw [if_pos h1] at h0; cases h0
      rw [if_neg h1] at h0 ⊢
      by_cases h2 : (zc w.consumers d.C).On = false ∨ d.V < 0 ∨ 5 < d.V
      · rw [if_pos h2] at h0; cases h0
      rw [if_neg h2] at h0 ⊢
      by_cases h3 : d.N < 1 ∨ (zc w.consumers d.C).Id < d.N
      · rw [if_pos h3] at h0; cases h0
      rw [if_neg h3] at h0 ⊢
      obtain ⟨s1, s2, s3, s4, s5, s6⟩ := z6z hw.good (q := ⟨4, d.N, d.V, maxC (zc w.consumers d.C) d.V, [], []⟩) (by simp) h0
      rw [s5, hw40]
      exact hsay ⟨4, d.N, d.V, maxC (zc w.consumers d.C) d.V, [], []⟩ (zc w.consumers d.C).Flags (.inr b12) hi ho s1 (.inr ⟨rfl, by show d.N ≤ _; omega⟩) s3 s4
    · rw [if_pos h0]; exact no _ h0
  · omega
end Go.Proofs.YtmakmlnfbdablaaGreat.Ab
namespace Go.Proofs.YtmakmlnfbdablaaGreat.Ab
open Go Go.RowKit
set_option linter.unusedVariables false
set_option linter.unusedSimpArgs false
theorem OkW.cfit {w : Wld} (h : OkW w) {i : Int} (hi : 0 ≤ i ∧ i < 2) : FitC 140737488351232 (zc w.consumers i) := (h.c i hi).fit h.d1
theorem zamx {w : Wld} (h : OkW w) : zb9 w = some (w.p, w) := zadg h.fit
theorem zamy {w : Wld} (h : OkW w) {i : Int} (hi : 0 ≤ i ∧ i < 2) : zbi i w = some (zc w.consumers i, w) := by
  rw [zadh fun hi => h.cfit hi, if_pos hi]
theorem zahl : zrs = some true := by
  obtain ⟨e1, e2, e3⟩ := do_4
  rw [zrs, zue, Tr.run_bind zafm, Tr.run_bind (zajc zaa9 (by decide)), do_1, Tr.run_bind (zajc okW1 (by decide)), do_2, Tr.run_bind (zajc okW2 (by decide)), do_3, Tr.run_bind (zajc okW3 (by decide))]
  simp only [e1]
  rw [Tr.run_true (by rfl), Tr.run_bind (zapv _), Tr.run_true (by rw [e2]; rfl), Tr.run_bind (zamy okW4 (by omega)), Tr.run_leaf, e3]
  rfl
theorem zadj {σ ρ τ : Type} {F : σ → Option (σ ⊕ ρ)} (n : Nat) (mk : Nat → τ → σ) (I : Nat → τ → Prop) (out : τ → ρ)
    (hend : ∀ t, I n t → F (mk n t) = some (.inr (out t))) (hstep : ∀ i t, i < n → I i t → ∃ t', F (mk i t) = some (.inl (mk (i + 1) t')) ∧ I (i + 1) t') {t : τ} (h0 : I 0 t) : ∃ t', zeh F (mk 0 t) = some (out t') ∧ I n t' := by
  obtain ⟨r, h1, t', h2, h3⟩ := zhp (F := F) n mk I (fun _ _ r => ∃ t', r = out t' ∧ I n t') (fun t h => ⟨out t, hend t h, t, rfl, h⟩) (fun i t hi h => by
    obtain ⟨t', k1, k2⟩ := hstep i t hi h
    exact .inl ⟨t', k1, k2, fun r hr => hr⟩) 0 t (Nat.zero_le _) h0
  exact ⟨t', by rw [h1, h2], h3⟩
def z35 (l : List Deed) : Nat := min l.length 120
theorem zadk {l : List Deed} : ((decide (((z35 l : Nat) : Int) < ((l.length : Nat) : Int))) && (decide (((z35 l : Nat) : Int) < 120))) = false := by
  unfold z35
  rw [Bool.and_eq_false_iff, decide_eq_false_iff_not, decide_eq_false_iff_not]
  omega
theorem zadl {l : List Deed} {i : Nat} (h : i < z35 l) : ((decide ((i : Int) < ((l.length : Nat) : Int))) && (decide ((i : Int) < 120))) = true := by
  unfold z35 at h
  rw [Bool.and_eq_true, decide_eq_true_eq, decide_eq_true_eq]
  omega
theorem zahm {l : List Deed} {i : Nat} (h : i < z35 l) : i < l.length := by unfold z35 at h; omega
theorem zsc (l : List Deed) : Sl.len (.deeds l) = l.length := rfl
def zamz (l : List Deed) : Prop := l.length ≤ 4611686018427387904 ∧ ∀ d, d ∈ l → d.N ≤ 9223372036854775807
noncomputable def zapw (look : Deed → Reply → Wld → Option (Bool × Wld)) (x0 : List Deed) (x1 : Int) (x2 : Wld) : Tr (((List Deed) × Int × Wld) ⊕ ((Bool × Wld) ⊕ (Wld))) :=
  (.ite ((decide (x1 < ((x0.length : Nat) : Int))) && (decide (x1 < 120)))
    (.guard ((0 : Int) ≤ x1 ∧ x1 < ((Sl.len (.deeds x0) : Nat) : Int))
    (.bind (zbj (x0.getD x1.toNat default) x2) fun v3 =>
    (.guard ((0 : Int) ≤ x1 ∧ x1 < ((Sl.len (.deeds x0) : Nat) : Int))
    (.guard ((look (x0.getD x1.toNat default) v3.1 v3.2).isSome = true)
    (.ite (!((look (x0.getD x1.toNat default) v3.1 v3.2).getD default).1)
      (.leaf (.inr (.inl (false, ((look (x0.getD x1.toNat default) v3.1 v3.2).getD default).2))))
      (.leaf (.inl (x0, IntKind.i64.wrap (x1 + 1), ((look (x0.getD x1.toNat default) v3.1 v3.2).getD default).2))))))))
    (.leaf (.inr (.inr x2))))
theorem zabc {w : Wld} (d : Deed) (h : w.deeds < 600) : (doW w d).1.deeds = w.deeds + 1 := by
  have hp : ∀ r, (zsn (zba w) r).1.deeds = w.deeds + 1 := by intro r; unfold zsn; split <;> rfl
  have hq : ∀ i r, (putW (zba w) i r).1.deeds = w.deeds + 1 := by intro i r; unfold putW; split <;> rfl
  unfold doW
  rw [if_neg (by omega)]
  unfold actW
  repeat' split
  · exact hp _
  · exact hp _
  · exact hp _
  · exact hp _
  · unfold zaiz; split <;> rfl
  · unfold zlq; split <;> rfl
  · unfold zsb
    repeat' split
    · rfl
    · rfl
    · rfl
    · unfold z3q; split <;> rfl
    · unfold zx1; split <;> rfl
    · unfold z81; split <;> rfl
    · unfold zsa; repeat' split
      all_goals rfl
    · unfold zxi; split <;> rfl
    · exact hq _ _
    · exact hq _ _
    · rfl
theorem zaje {look : Deed → Reply → Wld → Option (Bool × Wld)} (J : Wld → Prop) (h0 : J newW) {l : List Deed} (hl : zamz l)
    (hstep : ∀ w d, OkW w → J w → w.deeds < 120 → J (doW w d).1 ∧ look d (doW w d).2 (doW w d).1 = some (true, (doW w d).1)) :
    ∃ w, zeh (fun s : (List Deed) × Int × Wld => (zapw look s.1 s.2.1 s.2.2).run) (l, 0, newW) = some (.inr w) ∧ OkW w ∧ J w ∧ w.deeds = z35 l := by
  have := zadj (F := fun s : (List Deed) × Int × Wld => (zapw look s.1 s.2.1 s.2.2).run) (z35 l) (fun i (w : Wld) => (l, (i : Int), w)) (fun i w => OkW w ∧ J w ∧ w.deeds = i) (fun w => .inr w) ?_ ?_ (t := newW) ⟨zaa9, h0, rfl⟩
  · exact this
  · rintro w ⟨h, _, _⟩
    simp only [zapw]
    rw [Tr.run_false zadk, Tr.run_leaf]
  · rintro i w hi ⟨h, hj, hd⟩
    have hlt := zahm hi
    have hn := hl.2 _ (zfk (l := l) (k := i) hlt default)
    have ho := z61 h (l.getD i default)
    have h120 : w.deeds < 120 := by unfold z35 at hi; omega
    obtain ⟨j1, j2⟩ := hstep w (l.getD i default) h hj h120
    refine ⟨(doW w (l.getD i default)).1, ?_, ho, j1, by rw [zabc _ (by omega), hd]; omega⟩
    simp only [zapw]
    rw [Int.toNat_natCast, Tr.run_true (zadl hi), Tr.run_guard ⟨by omega, by rw [zsc]; omega⟩, Tr.run_bind (zajc h hn), Tr.run_guard ⟨by omega, by rw [zsc]; omega⟩, j2, Tr.run_guard (by rfl), Tr.run_false (by rfl), Tr.run_leaf, zx (by have := hl.1; omega)]
    rfl
end Go.Proofs.YtmakmlnfbdablaaGreat.Ab
namespace Go.Proofs.YtmakmlnfbdablaaGreat.Ab
open Go Go.RowKit
set_option linter.unusedVariables false
set_option linter.unusedSimpArgs false
structure Grow (w w' : Wld) (i : Int) : Prop where
  link : (zh w.p.Links i).Out.Said <+: (zh w'.p.Links i).Out.Said
  cons : (zc w.consumers i).Out.Said <+: (zc w'.consumers i).Out.Said
theorem Grow.one {w w' : Wld} {i j : Int} {c : zb} (hj : 0 ≤ j ∧ j < 2) (hi : 0 ≤ i ∧ i < 2) (hl : (zh w.p.Links i).Out.Said <+: (zh w'.p.Links i).Out.Said) (hc : w'.consumers = znz w.consumers j c) (h : (zc w.consumers j).Out.Said <+: c.Out.Said) : Grow w w' i := by
  refine ⟨hl, ?_⟩
  rw [hc, zmf hj hi]
  split
  · rename_i e; rw [e]; exact h
  · exact List.prefix_refl _
end Go.Proofs.YtmakmlnfbdablaaGreat.Ab
namespace Go.Proofs.YtmakmlnfbdablaaGreat.Ab
open Go Go.RowKit
set_option linter.unusedVariables false
set_option linter.unusedSimpArgs false
def DeadI (s t : Stake) : Prop := ∀ v : Int, 0 ≤ v → v < 6 → (s.Validators.Dead.get v = true → t.Validators.Dead.get v = true) ∧ s.Validators.Lost.get v ≤ t.Validators.Lost.get v ∧ (s.Validators.Lost.get v < t.Validators.Lost.get v → s.Validators.Dead.get v = false ∧ t.Validators.Dead.get v = true)
theorem DeadI.same {s t : Stake} (h1 : t.Validators.Dead = s.Validators.Dead) (h2 : t.Validators.Lost = s.Validators.Lost) : DeadI s t := by
  intro v _ _
  rw [h1, h2]
  exact ⟨id, Int.le_refl _, fun h => absurd h (Int.lt_irrefl _)⟩
theorem DeadI.refl (s : Stake) : DeadI s s := .same rfl rfl
theorem DeadI.trans {s t u : Stake} (h : DeadI s t) (k : DeadI t u) : DeadI s u := by
  intro v h0 h6
  obtain ⟨a1, a2, a3⟩ := h v h0 h6
  obtain ⟨b1, b2, b3⟩ := k v h0 h6
  refine ⟨fun x => b1 (a1 x), by omega, fun x => ?_⟩
  by_cases e : s.Validators.Lost.get v < t.Validators.Lost.get v
  · exact ⟨(a3 e).1, b1 (a3 e).2⟩
  · obtain ⟨c1, c2⟩ := b3 (by omega)
    refine ⟨?_, c2⟩
    cases hd : s.Validators.Dead.get v with
    | false => rfl
    | true => rw [a1 hd] at c1; cases c1
theorem zabd (s : Stake) (d v n : Int) : DeadI s (zbr s d v n).1 := by
  refine .same ?_ ?_ <;>
  · unfold zbr
    repeat' split
    all_goals rfl
theorem z62 (s : Stake) (d v k : Int) (w : Wait) : DeadI s (zau s d v k w).1 := by
  refine .same ?_ ?_ <;>
  · unfold zau
    repeat' split
    all_goals rfl
theorem z85 (s : Stake) (v what : Int) : (zbs s v what).1.Validators.Lost = s.Validators.Lost := by
  unfold zbs
  repeat' split
  all_goals rfl
theorem z2s {s : Stake} (hg : GoodS s) (v : Int) {what : Int} (hw : what = 0 ∨ what = 1 ∨ what = 2) : DeadI s (zbs s v what).1 := by
  intro u h0 h6
  have hk := (z8q hg v hw).2.2.2 u h0 h6
  refine ⟨hk.1, hk.2, fun h => ?_⟩
  rw [z85] at h
  exact absurd h (Int.lt_irrefl _)
theorem zajf {s : Stake} {v h f u : Int} (hv : 0 ≤ v ∧ v < 6) (hu : 0 ≤ u ∧ u < 6) (e : u ≠ v) : (zgt s v h f).1.Validators.Lost.get u = s.Validators.Lost.get u := by
  unfold zgt
  repeat' split
  · rfl
  · rfl
  · show (s.Validators.Lost.set v _).get u = _
    rw [zpn _ _ hv hu, if_neg e]
theorem zadm {s : Stake} (hg : GoodS s) {v h : Int} (hv : 0 ≤ v ∧ v < 6) (hd : s.Validators.Dead.get v = false) : DeadI s (zbs (zgt s v h 50).1 v 2).1 := by
  have g1 := zrz hg v h 50
  have h1 := z2s g1 v (.inr (.inr rfl))
  have hdd := zafg g1 hv (by rw [z8y]; exact hd)
  intro u h0 h6
  obtain ⟨a1, a2, a3⟩ := h1 u h0 h6
  have k1 := (z8r hg v h 50).2.2.2 u h0 h6
  refine ⟨fun x => a1 (k1.1 x), by omega, fun x => ?_⟩
  by_cases e : u = v
  · rw [e]; exact ⟨hd, hdd⟩
  · rw [z85, zajf hv ⟨h0, h6⟩ e] at x
    exact absurd x (Int.lt_irrefl _)
theorem zadn {p0 p : za} (h : DealI p0 p) {a : Asked} (hv : 0 ≤ a.P.V ∧ a.P.V < 6) : DeadI p.Stake (z6o p a).1.Stake := by
  have hg := h.good
  unfold z6o
  repeat' split
  · exact .same rfl rfl
  · exact .refl _
  · rename_i hd; exact zadm hg hv (Bool.eq_false_iff.2 hd)
  · exact .refl _
  · exact z2s hg _ (.inl rfl)
  · exact .refl _
theorem z86 {p0 : za} : ∀ (l : List Asked) (i : Nat) (t : za × A2 Bool × List Asked), zac5 p0 i t → (∀ a, a ∈ l → (0 ≤ a.C ∧ a.C < 2) ∧ a ∈ p0.Queue ∧ (0 ≤ a.P.V ∧ a.P.V < 6)) → DeadI t.1.Stake (l.foldl z34 t).1.Stake
  | [], _, _, _, _ => .refl _
  | a :: l, i, t, h, ha => by
    obtain ⟨a1, a2, a3⟩ := ha a (List.mem_cons_self ..)
    refine DeadI.trans ?_ (z86 l (i + 1) (z34 t a) (zaa4 h a1 a2) (fun b hb => ha b (List.mem_cons_of_mem _ hb)))
    unfold z34
    repeat' split
    · exact .refl _
    · exact zadn h.1 a3
    · exact zadn h.1 a3
theorem zajg {p : za} (hg : zad p = true) (now : Int) : DeadI p.Stake (zgu p now).1.Stake := by
  refine z86 (p0 := zvi p now) p.Queue 0 (zvi p now, ⟨false, false⟩, []) ⟨z6p hg, by simp, fun c hc => by rcases (show c = 0 ∨ c = 1 by omega) with rfl | rfl <;> rfl, fun b hb => by cases hb⟩ (fun a ha => ⟨(zafc hg a ha).2, ha, ?_⟩)
  have := zgz ((goodPr_iff.1 hg).1.ask ha).2.2.1
  omega
theorem zapx {p : za} {now : Int} (h : zad p = true ∧ p.Time ≤ now ∧ now ≤ 1099511627776) : DeadI p.Stake (zjh p now).1.Stake := by
  rw [(z1z h).2.2.1]
  refine (zajg h.1 now).trans (.same ?_ ?_)
  · rw [zahf (zti (now := now) h.1).1.good]
  · rw [zahf (zti (now := now) h.1).1.good]
theorem zaul {w : Wld} (h : OkW w) (hd : w.deeds < 600) (d : Deed) : DeadI w.p.Stake (doW w d).1.p.Stake := by
  refine z4o h hd d (P := fun w' r => DeadI w.p.Stake w'.p.Stake) ?_ ?_ ?_ ?_ ?_ ?_ ?_ ?_ ?_ ?_ ?_ ?_ ?_ ?_ ?_
  · intro w' r a _; rw [a.p]; exact .refl _
  · intro _ _; exact zabd _ _ _ _
  · intro _ _; exact z62 _ _ _ _ _
  · intro _ _; exact z2s h.p.1 _ (.inr (.inl rfl))
  · intro _ hv _ hdd; exact zadm h.p.1 hv hdd
  · intro _ _ _; exact .refl _
  · intro _; exact zapx ⟨h.pr, h.pt, by have := h.t1; omega⟩
  · intro _ _ _ _ _ _; exact .same rfl rfl
  · intro _ _ _; exact .refl _
  · intro _ _ _ _; exact .refl _
  · intro _ _ _ _; exact .refl _
  · intro q _ _ _ _ _ _; exact .refl _
  · intro q _ _ _ _ _ _; exact .refl _
  · intro _ _ _ _; exact .same rfl rfl
  · intro q f _ _ _ _ _ _ _; exact .refl _
theorem zaum {w : Wld} (h : OkW w) (hd : w.deeds < 600) (d : Deed) : d.Kind = 6 → (doW w d).2.Code = 0 → ∀ q, q ∈ (doW w d).1.p.Set → (doW w d).1.p.Stake.Validators.Jailed.get q.V = false := by
  refine z4o h hd d (P := fun w' r => d.Kind = 6 → r.Code = 0 → ∀ q, q ∈ w'.p.Set → w'.p.Stake.Validators.Jailed.get q.V = false) ?_ ?_ ?_ ?_ ?_ ?_ ?_ ?_ ?_ ?_ ?_ ?_ ?_ ?_ ?_
  · intro w' r _ hr _ k; exact absurd k hr
  · intro k _ k9; omega
  · intro k _ k9; omega
  · intro k _ k9; omega
  · intro k _ _ _ k9; omega
  · intro k _ _ k9; omega
  · intro k _ _ q hq
    have ht : zad w.p = true ∧ w.p.Time ≤ w.clock ∧ w.clock ≤ 1099511627776 := ⟨h.pr, h.pt, by have := h.t1; omega⟩
    obtain ⟨r1, r2, r3, r4, -⟩ := z1z ht
    have hq' : q ∈ (zjh w.p w.clock).1.Set := hq
    show (zjh w.p w.clock).1.Stake.Validators.Jailed.get q.V = false
    rw [r4] at hq'
    rw [r3]
    exact (zagz (zaa3 (zti (now := w.clock) ht.1).1.good w.clock) hq').2.1
  · intro k _ _ _ _ _ k9; omega
  · intro k _ _ k9; omega
  · intro k _ _ _ k9; omega
  · intro k _ _ _ k9; omega
  · intro q k _ _ _ _ _ k9; omega
  · intro q k _ _ _ _ _ k9; omega
  · intro k _ _ _ k9; omega
  · intro q f k _ _ _ _ _ _ k9; omega
theorem zaun {v : Int} {A C : A6 zd} {l : List Power} {w : Wld} {d : Deed} {r : Reply} {p : za} {x : zd} (hl : l.length ≤ 1000) (h : ∀ q, q ∈ l → q.V = v → x.Jailed = false) :
    zj2 v A v l l.length 0 w C d r p x = some (.inr (A, v, w, C, d, r, p)) := by
  rw [zj2]
  have := zaai (F := fun s : Int × (A6 zd) × Int × (List Power) × Int × Int × Wld × (A6 zd) × Deed × Reply × za × zd => (ze2 s.1 s.2.1 s.2.2.1 s.2.2.2.1 s.2.2.2.2.1 s.2.2.2.2.2.1 s.2.2.2.2.2.2.1 s.2.2.2.2.2.2.2.1 s.2.2.2.2.2.2.2.2.1 s.2.2.2.2.2.2.2.2.2.1 s.2.2.2.2.2.2.2.2.2.2.1 s.2.2.2.2.2.2.2.2.2.2.2).run) l default (fun i => (v, A, v, l, (l.length : Int), (i : Int), w, C, d, r, p, x)) (fun _ => true) (false, w, C) (A, v, w, C, d, r, p) (by
      simp only [ze2]; rw [Tr.run_false (by simp), Tr.run_leaf]) (by
      intro i hi _
      have hq := h _ (zfk (l := l) (k := i) hi default)
      simp only [ze2, Int.toNat_natCast]
      rw [Tr.run_true (by simpa using hi), Tr.run_guard ⟨by omega, by rw [zao]; omega⟩, Tr.run_false (by
        rw [Bool.and_eq_false_iff]
        by_cases e : (l.getD i default).V = v
        · exact .inr (hq e)
        · exact .inl (by simpa using e)), Tr.run_leaf, zx (by omega)]) (by intro i hi h; cases h)
  rw [if_pos (by simp)] at this
  exact this
theorem zam0 {w : Wld} (h : OkW w) {d : Deed} {r : Reply} {s : Stake} (hD : DeadI s w.p.Stake) (hJ : d.Kind = 6 → r.Code = 0 → ∀ q, q ∈ w.p.Set → w.p.Stake.Validators.Jailed.get q.V = false) :
    zcg d r w (vsA s) = some (true, w, vsA w.p.Stake) := by
  have hs := h.fit.set
  have hsl : w.p.Set.length ≤ 1000 := by have := zd2 h.p.2.2.1 (by omega); omega
  have turn : ∀ (v : Nat), v < 6 → (zdo (vsA w.p.Stake) (v : Int) w (vsA s) d r w.p).run = some (.inl (vsA w.p.Stake, ((v + 1 : Nat) : Int), w, vsA s, d, r, w.p)) := by
    intro v hv
    have hv' : 0 ≤ (v : Int) ∧ (v : Int) < 6 := by omega
    obtain ⟨a1, a2, a3⟩ := hD v hv'.1 hv'.2
    simp only [zdo]
    have e1 : A6.get ⟨(vsA s).x0.Dead, (vsA s).x1.Dead, (vsA s).x2.Dead, (vsA s).x3.Dead, (vsA s).x4.Dead, (vsA s).x5.Dead⟩ (v : Int) = s.Validators.Dead.get v := rfl
    have e2 : A6.get ⟨(vsA w.p.Stake).x0.Dead, (vsA w.p.Stake).x1.Dead, (vsA w.p.Stake).x2.Dead, (vsA w.p.Stake).x3.Dead, (vsA w.p.Stake).x4.Dead, (vsA w.p.Stake).x5.Dead⟩ (v : Int) = w.p.Stake.Validators.Dead.get v := rfl
    have e3 : A6.get ⟨(vsA s).x0.Lost, (vsA s).x1.Lost, (vsA s).x2.Lost, (vsA s).x3.Lost, (vsA s).x4.Lost, (vsA s).x5.Lost⟩ (v : Int) = s.Validators.Lost.get v := rfl
    have e4 : A6.get ⟨(vsA w.p.Stake).x0.Lost, (vsA w.p.Stake).x1.Lost, (vsA w.p.Stake).x2.Lost, (vsA w.p.Stake).x3.Lost, (vsA w.p.Stake).x4.Lost, (vsA w.p.Stake).x5.Lost⟩ (v : Int) = w.p.Stake.Validators.Lost.get v := rfl
    have e5 : A6.get ⟨(vsA w.p.Stake).x0.Jailed, (vsA w.p.Stake).x1.Jailed, (vsA w.p.Stake).x2.Jailed, (vsA w.p.Stake).x3.Jailed, (vsA w.p.Stake).x4.Jailed, (vsA w.p.Stake).x5.Jailed⟩ (v : Int) = w.p.Stake.Validators.Jailed.get v := rfl
    rw [e1, e2, e3, e4, e5]
    rw [Tr.run_true (by simp; omega), Tr.run_guard hv', Tr.run_guard hv', Tr.run_guard (fun _ => ⟨hv', trivial⟩), Tr.run_guard (fun _ => ⟨hv', trivial⟩), Tr.run_guard (fun _ _ => ⟨hv', trivial⟩), Tr.run_false (by
      generalize s.Validators.Dead.get (v : Int) = x1 at *
      generalize w.p.Stake.Validators.Dead.get (v : Int) = x2 at *
      generalize s.Validators.Lost.get (v : Int) = y1 at *
      generalize w.p.Stake.Validators.Lost.get (v : Int) = y2 at *
      rw [Bool.eq_false_iff]
      intro k
      simp only [Bool.or_eq_true, Bool.and_eq_true, Bool.not_eq_true', decide_eq_true_eq] at k
      rcases k with (⟨k1, k2⟩ | k) | ⟨k1, k2⟩
      · rw [a1 k1] at k2; cases k2
      · omega
      · obtain ⟨b1, b2⟩ := a3 k1
        rcases k2 with k2 | k2
        · rw [b1] at k2; cases k2
        · rw [b2] at k2; cases k2)]
    by_cases hk : d.Kind = 6 ∧ r.Code = 0
    · rw [Tr.run_true (by simp [hk.1, hk.2]), Tr.run_inr (zaun hsl (fun q hq e => by
        have := hJ hk.1 hk.2 q hq
        rw [e] at this
        exact this)), Tr.run_leaf, zx (by omega)]
    · rw [Tr.run_false (by
        rw [Bool.and_eq_false_iff]
        by_cases k6 : d.Kind = 6
        · exact .inr (by simpa using fun e => hk ⟨k6, e⟩)
        · exact .inl (by simpa using k6)), Tr.run_leaf, zx (by omega)]
  have loop : zj3 (vsA w.p.Stake) 0 w (vsA s) d r w.p = some (.inr (w, vsA s, w.p)) := by
    rw [zj3]
    have := zmb (F := fun s : (A6 zd) × Int × Wld × (A6 zd) × Deed × Reply × za => (zdo s.1 s.2.1 s.2.2.1 s.2.2.2.1 s.2.2.2.2.1 s.2.2.2.2.2.1 s.2.2.2.2.2.2).run) 6 (fun i (_ : Unit) => (vsA w.p.Stake, (i : Int), w, vsA s, d, r, w.p)) (fun _ _ => True) (fun _ _ => .inr (w, vsA s, w.p)) (by
        intro t _
        simp only [zdo]
        rw [Tr.run_false (by simp), Tr.run_leaf]) (by
        intro i t hi _
        exact .inl ⟨(), turn i hi, trivial, rfl⟩) 0 () (Nat.zero_le _) trivial
    exact this
  rw [zcg, zlj, Tr.run_bind (zamx h), Tr.run_inr (v := (w, vsA s, w.p)) (by exact loop), Tr.run_leaf]
  rfl
theorem zajh {l : List Deed} (hl : zamz l) : zm6 l = some true := by
  have loop : ∃ t : Wld, zj4 l 0 (vsA newW.p.Stake) newW = some (.inr (vsA t.p.Stake, t)) := by
    rw [zj4]
    have := zadj (F := fun s : (List Deed) × Int × (A6 zd) × Wld => (ze3 s.1 s.2.1 s.2.2.1 s.2.2.2).run) (z35 l) (fun i (w : Wld) => (l, (i : Int), vsA w.p.Stake, w)) (fun i w => OkW w ∧ w.deeds = i) (fun w => .inr (vsA w.p.Stake, w)) ?_ ?_ (t := newW) ⟨zaa9, rfl⟩
    · obtain ⟨t, h1, _⟩ := this
      exact ⟨t, h1⟩
    · rintro w ⟨h, _⟩
      simp only [ze3]
      rw [Tr.run_false zadk, Tr.run_leaf]
    · rintro i w hi ⟨h, hd⟩
      have hlt := zahm hi
      have hn := hl.2 _ (zfk (l := l) (k := i) hlt default)
      have ho := z61 h (l.getD i default)
      have h600 : w.deeds < 600 := by unfold z35 at hi; omega
      have hk := zam0 (d := l.getD i default) (r := (doW w (l.getD i default)).2) ho (zaul h h600 _) (zaum h h600 _)
      refine ⟨(doW w (l.getD i default)).1, ?_, ho, by rw [zabc _ (by omega), hd]; omega⟩
      simp only [ze3]
      rw [Int.toNat_natCast, Tr.run_true (zadl hi), Tr.run_guard ⟨by omega, by rw [zsc]; omega⟩, Tr.run_bind (zajc h hn), Tr.run_guard ⟨by omega, by rw [zsc]; omega⟩, hk, Tr.run_guard (by rfl), Tr.run_false (by rfl), Tr.run_leaf, zx (by have := hl.1; omega)]
      rfl
  obtain ⟨t, h1⟩ := loop
  rw [zm6, zpf, Tr.run_bind (v := (true, vsA t.p.Stake, t)) (by
    rw [zvd, zlk, Tr.run_bind zahl, Tr.run_false (by rfl), Tr.run_bind zafm, Tr.run_inr (v := (vsA t.p.Stake, t)) (by exact h1), Tr.run_leaf]), Tr.run_leaf]
end Go.Proofs.YtmakmlnfbdablaaGreat.Ab
