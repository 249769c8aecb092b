/-
  The plain lemmas.
-/
import Derived.Test.YtmakmlnfbdablaaGreatXAbInsert
import Derived.Test.YtmakmlnfbdablaaGreatXFBank
import Derived.Test.YtmakmlnfbdablaaGreatXFCodec
import Derived.Test.YtmakmlnfbdablaaGreatXFCons
import Derived.Test.YtmakmlnfbdablaaGreatXFLine
import Derived.Test.YtmakmlnfbdablaaGreatXFProv
import Derived.Test.YtmakmlnfbdablaaGreatXFStakeA
import Derived.Test.YtmakmlnfbdablaaGreatXFStakeB
import Derived.Test.YtmakmlnfbdablaaGreatXFTop
import Derived.Test.YtmakmlnfbdablaaGreatXFWld
import Derived.Test.YtmakmlnfbdablaaGreatXPlA
namespace Go.Proofs.YtmakmlnfbdablaaGreat.Ab
open Go Go.RowKit
set_option linter.unusedVariables false
set_option linter.unusedSimpArgs false
def zuv (l : List Power) (id now : Int) : zb := ⟨true, false, 0, now, id, l, [], [], ⟨false, false, false, false, false, false⟩, ⟨[], [], 0, false⟩, ⟨0, 0, 0, 0⟩⟩
theorem zaqx {l : List Power} {id now : Int} (hl : l.length * 16 ≤ 140737488355328) : ziu l id now = some (zuv l id now) := by
  rw [ziu, zj9, Tr.run_bind (zaj8 hl), Tr.run_leaf]; rfl
def zyq (c : zb) (s : List UInt8) : zb × Int :=
  if zld c = false then (c, 2) else if c.On = false then (c, 4) else if (zbf s).2 ≠ 0 then (c, (zbf s).2) else if (zbf s).1.Kind ≠ 1 then (c, 3)
  else ({ c with Pending := c.Pending ++ [(zbf s).1] }, 0)
theorem zav0 {c : zb} {a : ByteArray} (h : FitC 140737488351232 c) (ha : a.size ≤ 140737488355328) : zka c a = some (zyq c a.data.toList) := by
  have e1 : zfu a = some (zbf a.data.toList) := zad8 (s := a.data.toList) (by have : a.data.toList.length = a.size := rfl; omega)
  have e2 := h.pend
  rw [zka, zly, Tr.run_bind e1, Tr.run_bind (zwb h)]
  simp only [zaj9 (l := c.Pending) (by omega), Option.isSome_some, Option.getD_some]
  unfold zyq
  cases hg : zld c with
  | false => rw [Tr.run_true (by rfl), Tr.run_leaf, if_pos rfl]
  | true =>
    rw [Tr.run_false (by rfl), if_neg (by simp)]
    cases ho : c.On with
    | false => rw [Tr.run_true (by rfl), Tr.run_leaf, if_pos rfl]
    | true =>
      rw [Tr.run_false (by rfl), if_neg (by simp)]
      by_cases hd : (zbf a.data.toList).2 = 0
      · rw [Tr.run_false (by simpa using hd), if_neg (by simpa using hd)]
        by_cases hk : (zbf a.data.toList).1.Kind = 1
        · rw [Tr.run_false (by simpa using hk), if_neg (by simpa using hk), Tr.run_guard (by trivial), Tr.run_guard (by simp only [zha, List.length_singleton]; omega), Tr.run_leaf]
        · rw [Tr.run_true (by simpa using hk), if_pos hk, Tr.run_leaf]
      · rw [Tr.run_true (by simpa using hd), if_pos hd, Tr.run_leaf]
def zw7 (p : Packet) (now : Int) (c : zb) : Int × zb :=
  if (zga p).2 ≠ 0 then ((zga p).2, c)
  else if (sayL c.Out (zga p).1 (IntKind.i64.wrap (now + 40))).2 ≠ 0 then ((sayL c.Out (zga p).1 (IntKind.i64.wrap (now + 40))).2, c)
  else (0, { c with Out := (sayL c.Out (zga p).1 (IntKind.i64.wrap (now + 40))).1 })
theorem zail {p : Packet} {now : Int} {c : zb} (h : (zw7 p now c).1 ≠ 0) : (zw7 p now c).2 = c := by
  unfold zw7 at h ⊢
  split
  · rfl
  · split
    · rfl
    · rename_i h1 h2
      rw [if_neg h1, if_neg h2] at h
      exact absurd rfl h
theorem zaae {p : Packet} {now : Int} {c : zb} : (zw7 p now c).2.Ripes = c.Ripes := by
  unfold zw7
  repeat' split
  all_goals rfl
theorem zaim {p : Packet} {now : Int} {c : zb} (h1 : p.Set.length * 16 ≤ 140737488351232) (h2 : p.Done.length * 8 ≤ 140737488351232) : zbu p now c = some (zw7 p now c) := by
  rw [zbu, zny, Tr.run_bind (z3a h1 h2)]
  unfold zw7
  by_cases he : (zga p).2 = 0
  · rw [if_neg (by simpa using he), Tr.run_false (by simpa using he), Tr.run_bind (zash _ _ _)]
    by_cases hs : (sayL c.Out (zga p).1 (IntKind.i64.wrap (now + 40))).2 = 0
    · rw [if_neg (by simpa using hs), Tr.run_false (by simpa using hs), Tr.run_leaf]
    · rw [if_pos hs, Tr.run_true (by simpa using hs), Tr.run_leaf]
  · rw [if_pos he, Tr.run_true (by simpa using he), Tr.run_leaf]
def clrC (c : zb) (v : Int) : zb := { c with Flags := c.Flags.set v false }
def zael (c : zb) (l : List Int) : zb := l.foldl clrC c
theorem z73 : ∀ (l : List Int) (c : zb), zael c l = { c with Flags := l.foldl (fun f v => f.set v false) c.Flags }
  | [], c => rfl
  | v :: l, c => by unfold zael; rw [List.foldl_cons]; exact (z73 l (clrC c v)).trans rfl
def zuw (now : Int) (c : zb) (p : Packet) : zb :=
  { zael { c with Set := z7l c.Set p.Set, Id := p.Id } p.Done with Ripes := (zael { c with Set := z7l c.Set p.Set, Id := p.Id } p.Done).Ripes ++ [⟨p.Id, IntKind.i64.wrap (now + 15)⟩] }
theorem z5z (now : Int) (c : zb) (p : Packet) :
    zuw now c p = { c with Set := z7l c.Set p.Set, Id := p.Id, Flags := p.Done.foldl (fun f v => f.set v false) c.Flags, Ripes := c.Ripes ++ [⟨p.Id, IntKind.i64.wrap (now + 15)⟩] } := by
  unfold zuw; rw [z73]
def ztf (now : Int) : List Ripe → zb → zb
  | [], c => c
  | r :: rs, c => if r.Due ≤ now then (if (zw7 ⟨2, r.Id, 0, 0, [], []⟩ now c).1 ≠ 0 then c else ztf now rs { (zw7 ⟨2, r.Id, 0, 0, [], []⟩ now c).2 with Ripes := rs }) else c
def endC (now : Int) (c : zb) : zb × Int :=
  if zld c = false then (c, 2) else if c.On = false then (c, 4) else if now < c.Time ∨ 1099511627776 < now then (c, 2)
  else (ztf now (c.Pending.foldl (zuw now) { c with Height := IntKind.i64.wrap (c.Height + 1), Time := now }).Ripes { c.Pending.foldl (zuw now) { c with Height := IntKind.i64.wrap (c.Height + 1), Time := now } with Pending := [] }, 0)
theorem za2h {now x2 x3 : Int} {x1 : List Packet} {l : List Int} {c z : zb} {p : Packet} (hl : l.length ≤ 9223372036854775807) (hv : ∀ v, v ∈ l → 0 ≤ v ∧ v ≤ 5) :
    zlz now x1 x2 x3 l l.length 0 c z p = some (now, x1, x2, x3, zael c l, z, p) := by
  rw [zlz]
  refine zmm (F := fun s : Int × (List Packet) × Int × Int × (List Int) × Int × Int × zb × zb × Packet => (zfx s.1 s.2.1 s.2.2.1 s.2.2.2.1 s.2.2.2.2.1 s.2.2.2.2.2.1 s.2.2.2.2.2.2.1 s.2.2.2.2.2.2.2.1 s.2.2.2.2.2.2.2.2.1 s.2.2.2.2.2.2.2.2.2).run) l 0
    (fun i t => (now, x1, x2, x3, l, (l.length : Int), (i : Int), t, z, p)) (fun _ _ => True) clrC (fun t => (now, x1, x2, x3, t, z, p)) ?_ ?_ c trivial
  · intro t _
    simp only [zfx]; rw [Tr.run_false (by simp), Tr.run_leaf]
  · intro i t hi _
    have hm := hv _ (zgu (l := l) (k := i) hi 0)
    refine ⟨?_, trivial⟩
    simp only [zfx, Int.toNat_natCast]
    rw [Tr.run_true (by simpa using hi), Tr.run_guard ⟨by omega, by rw [zkv]; omega⟩, Tr.run_guard (by omega), Tr.run_leaf, z6 (by omega)]
    rfl
theorem z74 {l : List Packet} (h : l.all zpo = true) : ∀ p, p ∈ l → zfj p = 0 ∧ p.Kind = 1 ∧ (∀ v, v ∈ p.Done → 0 ≤ v ∧ v ≤ 5) := by
  intro p hp
  have h1 := List.all_eq_true.1 h p hp
  unfold zpo at h1
  simp only [Bool.and_eq_true, beq_iff_eq] at h1
  obtain ⟨g1, g2, g3, g4, g5, g6, g7, g8, g9, g10, _, _⟩ := zqs h1.2
  exact ⟨h1.2, h1.1, zzf g10 (by omega)⟩
theorem za2i {now : Int} {l : List Packet} {c z : zb} (hl : l.length ≤ 9223372036854775807) (hg : l.all zpo = true) (hs : c.Set.length ≤ 9223372036854775807)
    (hp : ∀ p, p ∈ l → p.Set.length * 16 ≤ 140737488351232 ∧ p.Done.length * 8 ≤ 140737488351232) (hr : (c.Ripes.length + l.length) * 16 ≤ 140737488355328) :
    zl0 now l l.length 0 c z = some (now, l.foldl (zuw now) c, z) := by
  rw [zl0]
  refine zmm (F := fun s : Int × (List Packet) × Int × Int × zb × zb => (zfy s.1 s.2.1 s.2.2.1 s.2.2.2.1 s.2.2.2.2.1 s.2.2.2.2.2).run) l default
    (fun i t => (now, l, (l.length : Int), (i : Int), t, z)) (fun i t => t.Ripes.length = c.Ripes.length + i ∧ t.Set.length ≤ 9223372036854775807) (zuw now) (fun t => (now, t, z)) ?_ ?_ c ⟨rfl, hs⟩
  · intro t _
    simp only [zfy]; rw [Tr.run_false (by simp), Tr.run_leaf]
  · intro i t hi ht
    obtain ⟨t1, t2⟩ := ht
    have hm := zgu (l := l) (k := i) hi default
    obtain ⟨p1, p2⟩ := hp _ hm
    obtain ⟨q1, q2, q3⟩ := z74 hg _ hm
    have hset := z7m (fun v => zad2 (l.getD i default).Set v (zeu t.Set v))
    refine ⟨?_, by rw [z5z]; simp only [List.length_append, List.length_singleton]; omega, by rw [z5z]; unfold z7l; simp only []; omega⟩
    simp only [zfy, Int.toNat_natCast]
    rw [Tr.run_true (by simpa using hi), Tr.run_guard ⟨by omega, by rw [zha]; omega⟩, Tr.run_bind (zap2 t2 (by omega)), Tr.run_bind (za2h (by omega) q3)]
    simp only []
    rw [Tr.run_guard (by simp only [zoy, List.length_singleton, z73]; omega), Tr.run_leaf, z6 (by omega)]
    rfl
theorem zasl {now : Int} {z : zb} : ∀ (rs : List Ripe) (c : zb), c.Ripes = rs → zca now c z = some (ztf now rs c, z)
  | [], c, h => by
    rw [zca]
    refine ze8 ?_
    simp only [zd8, h]
    rw [Tr.run_guard (by simp), Tr.run_false (by simp), Tr.run_leaf]
    rfl
  | r :: rs, c, h => by
    have hlen : (Sl.len (.ripes (r :: rs))) = rs.length + 1 := rfl
    unfold ztf
    by_cases hd : r.Due ≤ now
    · rw [if_pos hd]
      by_cases hs : (zw7 ⟨2, r.Id, 0, 0, [], []⟩ now c).1 = 0
      · rw [if_neg (by simpa using hs), ← zasl rs { (zw7 ⟨2, r.Id, 0, 0, [], []⟩ now c).2 with Ripes := rs } rfl, zca, zca]
        refine zcv ?_
        simp only [zd8, h, List.getD_cons_zero, hlen, zaae]
        rw [Tr.run_guard (by intro _; exact ⟨⟨by omega, by omega⟩, trivial⟩), Tr.run_true (by simp [hd]), Tr.run_guard (by omega), Tr.run_bind (zaim (by simp) (by simp)), Tr.run_false (by simpa using hs)]
        simp only [zaae, h, hlen]
        rw [Tr.run_guard (by omega), Tr.run_leaf]
        simp only [List.drop_succ_cons, List.drop_zero, Int.toNat_natCast, Nat.add_sub_cancel, List.take_length]
      · rw [if_pos hs, zca]
        refine ze8 ?_
        simp only [zd8, h, List.getD_cons_zero, hlen]
        rw [Tr.run_guard (by intro _; exact ⟨⟨by omega, by omega⟩, trivial⟩), Tr.run_true (by simp [hd]), Tr.run_guard (by omega), Tr.run_bind (zaim (by simp) (by simp)), Tr.run_true (by simpa using hs), Tr.run_leaf, zail hs]
    · rw [if_neg hd, zca]
      refine ze8 ?_
      simp only [zd8, h, List.getD_cons_zero, hlen]
      rw [Tr.run_guard (by intro _; exact ⟨⟨by omega, by omega⟩, trivial⟩), Tr.run_false (by simp [hd]), Tr.run_leaf]
theorem zce {c : zb} (h : zld c = true) : zagu c ∧ zen c.Out ∧ zab 1 (-1) c.Set = true ∧ c.Ripes.all zo2 = true ∧ c.Pending.all zpo = true := by
  unfold zld at h
  simp only [Bool.and_eq_true, decide_eq_true_eq] at h
  exact ⟨h.1.1.1.1, h.1.1.1.2, h.1.1.2, h.1.2, h.2⟩
theorem za2j {now : Int} {c : zb} (h : FitC 140737488351232 c) (hr : (c.Ripes.length + c.Pending.length) * 16 ≤ 140737488355328) : zaa c now = some (endC now c) := by
  have e1 := h.set; have e2 := h.pend; have e3 := h.ripes
  rw [zaa, zn0, Tr.run_bind (zwb h)]
  unfold endC
  cases hg : zld c with
  | false => rw [Tr.run_true (by rfl), Tr.run_leaf, if_pos rfl]
  | true =>
    obtain ⟨_, _, _, _, hp⟩ := zce hg
    rw [Tr.run_false (by rfl), if_neg (by simp)]
    cases ho : c.On with
    | false => rw [Tr.run_true (by rfl), Tr.run_leaf, if_pos rfl]
    | true =>
      rw [Tr.run_false (by rfl), if_neg (by simp)]
      by_cases ht : now < c.Time ∨ 1099511627776 < now
      · rw [if_pos ht, Tr.run_true (by simpa using ht), Tr.run_leaf]
      · rw [if_neg ht, Tr.run_false (by simp; omega), Tr.run_bind (zaka (by omega))]
        rw [Tr.run_bind (za2i (by omega) hp (by simp only []; omega) h.ps (by simp only []; omega))]
        simp only []
        rw [Tr.run_bind (zasl _ _ rfl), Tr.run_leaf, ho]
theorem z0n {now : Int} : ∀ (l : List Packet) (c : zb), (l.foldl (zuw now) c).Ripes.length = c.Ripes.length + l.length ∧ (l.foldl (zuw now) c).Out = c.Out ∧ (l.foldl (zuw now) c).On = c.On ∧ (l.foldl (zuw now) c).Gone = c.Gone ∧ (l.foldl (zuw now) c).Height = c.Height ∧ (l.foldl (zuw now) c).Time = c.Time
  | [], c => ⟨rfl, rfl, rfl, rfl, rfl, rfl⟩
  | p :: l, c => by
    rw [List.foldl_cons]
    obtain ⟨h1, h2, h3, h4, h5, h6⟩ := z0n l (zuw now c p)
    rw [z5z] at h1 h2 h3 h4 h5 h6 ⊢
    refine ⟨?_, h2, h3, h4, h5, h6⟩
    rw [h1]
    show (c.Ripes ++ [(⟨p.Id, IntKind.i64.wrap (now + 15)⟩ : Ripe)]).length + l.length = _
    rw [List.length_append, List.length_singleton, List.length_cons]
    omega
end Go.Proofs.YtmakmlnfbdablaaGreat.Ab
namespace Go.Proofs.YtmakmlnfbdablaaGreat.Ab
open Go Go.RowKit
set_option linter.unusedVariables false
set_option linter.unusedSimpArgs false
theorem zaag : ∀ {l : List Power} {p v : Int}, zab 1 p l = true → zeu l v = 0 ∨ 1 ≤ zeu l v
  | [], _, _, _ => .inl rfl
  | a :: l, p, v, h => by
    rw [zab] at h
    simp only [Bool.and_eq_true, decide_eq_true_eq] at h
    unfold zeu
    split
    · exact .inr h.1.1.2
    · exact zaag h.2
def z75 (c : zb) (v now : Int) : zb × Int :=
  if zld c = false ∨ now < 0 ∨ 1099511627776 < now then (c, 2) else if c.On = false ∨ v < 0 ∨ 5 < v ∨ zeu c.Set v = 0 then (c, 4) else if c.Flags.get v = true then (c, 5)
  else if (zw7 ⟨3, c.Id, v, zeu c.Set v, [], []⟩ now c).1 ≠ 0 then (c, (zw7 ⟨3, c.Id, v, zeu c.Set v, [], []⟩ now c).1)
  else ({ (zw7 ⟨3, c.Id, v, zeu c.Set v, [], []⟩ now c).2 with Flags := (zw7 ⟨3, c.Id, v, zeu c.Set v, [], []⟩ now c).2.Flags.set v true }, 0)
theorem zav1 {c : zb} {v now : Int} (h : FitC 140737488351232 c) : zex c v now = some (z75 c v now) := by
  have e1 := h.set
  have hsay := fun n => zaim (p := ⟨3, c.Id, v, n, [], []⟩) (now := now) (c := c) (by simp) (by simp)
  rw [zex, zl1, Tr.run_bind (zwb h)]
  simp only [zaik (l := c.Set) (v := v) (by omega), hsay, Option.isSome_some, Option.getD_some]
  unfold z75
  by_cases h1 : zld c = false ∨ now < 0 ∨ 1099511627776 < now
  · rw [if_pos h1, Tr.run_true (by simpa [or_assoc] using h1), Tr.run_leaf]
  · rw [if_neg h1, Tr.run_false (by rw [Bool.eq_false_iff]; intro k; apply h1; simpa [or_assoc] using k), Tr.run_guard (by simp)]
    by_cases h2 : c.On = false ∨ v < 0 ∨ 5 < v ∨ zeu c.Set v = 0
    · rw [if_pos h2, Tr.run_true (by
        simp only [Bool.or_eq_true, Bool.not_eq_true', decide_eq_true_eq, beq_iff_eq]
        rcases h2 with h2 | h2 | h2 | h2
        · exact .inl (.inl (.inl h2))
        · exact .inl (.inl (.inr h2))
        · exact .inl (.inr (by omega))
        · exact .inr h2), Tr.run_leaf]
    · simp only [not_or] at h2
      rw [if_neg (by simp only [not_or]; exact h2), Tr.run_false (by
        simp only [Bool.or_eq_false_iff, Bool.not_eq_false', decide_eq_false_iff_not, beq_eq_false_iff_ne]
        exact ⟨⟨⟨by simpa using h2.1, h2.2.1⟩, by omega⟩, h2.2.2.2⟩), Tr.run_guard (by omega)]
      by_cases h3 : c.Flags.get v = true
      · rw [if_pos h3, Tr.run_true h3, Tr.run_leaf]
      · rw [if_neg h3, Tr.run_false (by simpa using h3), Tr.run_guard (by trivial), Tr.run_guard (by trivial)]
        by_cases h4 : (zw7 ⟨3, c.Id, v, zeu c.Set v, [], []⟩ now c).1 = 0
        · rw [if_neg (by simpa using h4), Tr.run_false (by simpa using h4), Tr.run_guard (by omega), Tr.run_leaf]
        · rw [if_pos h4, Tr.run_true (by simpa using h4), Tr.run_leaf, zail h4]
def maxC (c : zb) (v : Int) : Int := if zeu c.Set v = 0 then 1 else zeu c.Set v
def ztu (c : zb) (v id now : Int) : zb × Int :=
  if zld c = false ∨ now < 0 ∨ 1099511627776 < now then (c, 2) else if c.On = false ∨ v < 0 ∨ 5 < v then (c, 4) else if id < 1 ∨ c.Id < id then (c, 2)
  else ((zw7 ⟨4, id, v, maxC c v, [], []⟩ now c).2, (zw7 ⟨4, id, v, maxC c v, [], []⟩ now c).1)
theorem zani {c : zb} {v id now : Int} (h : FitC 140737488351232 c) : zdt c v id now = some (ztu c v id now) := by
  have e1 := h.set
  rw [zdt, ziv, Tr.run_bind (zwb h)]
  unfold ztu
  by_cases h1 : zld c = false ∨ now < 0 ∨ 1099511627776 < now
  · rw [if_pos h1, Tr.run_true (by simpa [or_assoc] using h1), Tr.run_leaf]
  · rw [if_neg h1, Tr.run_false (by rw [Bool.eq_false_iff]; intro k; apply h1; simpa [or_assoc] using k)]
    by_cases h2 : c.On = false ∨ v < 0 ∨ 5 < v
    · rw [if_pos h2, Tr.run_true (by
        simp only [Bool.or_eq_true, Bool.not_eq_true', decide_eq_true_eq]
        rcases h2 with h2 | h2 | h2
        · exact .inl (.inl h2)
        · exact .inl (.inr h2)
        · exact .inr (by omega)), Tr.run_leaf]
    · simp only [not_or] at h2
      rw [if_neg (by simp only [not_or]; exact h2), Tr.run_false (by
        simp only [Bool.or_eq_false_iff, Bool.not_eq_false', decide_eq_false_iff_not]
        exact ⟨⟨by simpa using h2.1, h2.2.1⟩, by omega⟩)]
      by_cases h3 : id < 1 ∨ c.Id < id
      · rw [if_pos h3, Tr.run_true (by simpa using h3), Tr.run_leaf]
      · have hg : zld c = true := by simp only [not_or] at h1; simpa using h1.1
        have hf := zaag (v := v) (zce hg).2.2.1
        have hm : (if zeu c.Set v > 1 then zeu c.Set v else 1) = maxC c v := by
          unfold maxC
          rcases hf with hf | hf
          · rw [if_neg (by omega), if_pos hf]
          · rw [if_neg (show ¬ zeu c.Set v = 0 by omega)]
            split <;> omega
        rw [if_neg h3, Tr.run_false (by simp; omega), Tr.run_bind (zaik (by omega)), hm, Tr.run_bind (zaim (by simp) (by simp))]
        by_cases h4 : (zw7 ⟨4, id, v, maxC c v, [], []⟩ now c).1 = 0
        · rw [Tr.run_false (by simpa using h4), Tr.run_leaf, h4]
        · rw [Tr.run_true (by simpa using h4), Tr.run_leaf]
def z1f (c : zb) : zb := if c.On = false then c else { c with On := false, Gone := true, Out := { c.Out with Closed := true } }
theorem zaem {c : zb} : zhk c = some (z1f c) := by
  rw [zhk, ziw]
  unfold z1f
  cases ho : c.On with
  | false => rw [Tr.run_true (by rfl), Tr.run_leaf, if_pos rfl]
  | true => rw [Tr.run_false (by rfl), Tr.run_leaf, if_neg (by simp)]
end Go.Proofs.YtmakmlnfbdablaaGreat.Ab
namespace Go.Proofs.YtmakmlnfbdablaaGreat.Ab
open Go Go.RowKit
set_option linter.unusedVariables false
set_option linter.unusedSimpArgs false
theorem zagv {l : zbk} {s : ByteArray} {u : Int} (h : (sayL l s u).2 = 0) : zen l ∧ 0 ≤ u ∧ l.Closed = false ∧ l.Said.length < 400 ∧ sayL l s u = ({ l with Said := l.Said ++ [s], Due := l.Due ++ [u] }, 0) := by
  unfold sayL at h ⊢
  by_cases h1 : ¬ zen l ∨ u < 0
  · rw [if_pos h1] at h; cases h
  · rw [if_neg h1] at h ⊢
    simp only [not_or, Classical.not_not] at h1
    by_cases h2 : l.Closed = true
    · rw [if_pos h2] at h; cases h
    · rw [if_neg h2] at h ⊢
      by_cases h3 : 400 ≤ l.Said.length
      · rw [if_pos h3] at h; cases h
      · rw [if_neg h3]
        exact ⟨h1.1, by omega, by simpa using h2, by omega, rfl⟩
theorem zaqz {l : zbk} {s : ByteArray} {u : Int} (h1 : zen l) (h2 : 0 ≤ u) (h3 : l.Closed = false) (h4 : l.Said.length < 400) : sayL l s u = ({ l with Said := l.Said ++ [s], Due := l.Due ++ [u] }, 0) := by
  unfold sayL
  rw [if_neg (by simp only [not_or, Classical.not_not]; exact ⟨h1, by omega⟩), if_neg (by rw [h3]; simp), if_neg (by omega)]
theorem zaah {l : zbk} {s : ByteArray} {u : Int} (h1 : zen l) (h2 : 0 ≤ u) (h4 : l.Said.length < 400) : zen { l with Said := l.Said ++ [s], Due := l.Due ++ [u] } := by
  obtain ⟨g1, g2, g3, g4, g5⟩ := h1
  refine ⟨by simp [g1], by simp only [List.length_append, List.length_singleton]; omega, g3, by simp only [List.length_append, List.length_singleton]; omega, ?_⟩
  simp only [List.any_append, g5, Bool.false_or, List.any_cons, List.any_nil, Bool.or_false, decide_eq_false_iff_not]
  omega
theorem zanj {p : Packet} {now : Int} {c : zb} (h : (zw7 p now c).1 = 0) : zfj p = 0 ∧ (sayL c.Out (txt (zuy p)) (IntKind.i64.wrap (now + 40))).2 = 0 ∧
    zw7 p now c = (0, { c with Out := { c.Out with Said := c.Out.Said ++ [txt (zuy p)], Due := c.Out.Due ++ [IntKind.i64.wrap (now + 40)] } }) := by
  have hg : zfj p = 0 := by
    refine Classical.byContradiction fun hn => ?_
    unfold zw7 at h
    rw [zagh hn, if_pos hn] at h
    exact hn h
  unfold zw7 at h ⊢
  rw [zoz hg, if_neg (by simp)] at h ⊢
  simp only at h ⊢
  by_cases hs : (sayL c.Out (txt (zuy p)) (IntKind.i64.wrap (now + 40))).2 = 0
  · rw [if_neg (by simpa using hs), (zagv hs).2.2.2.2]
    exact ⟨hg, rfl, rfl⟩
  · rw [if_pos hs] at h
    exact absurd h hs
theorem zaq0 {p : Packet} {now : Int} {c : zb} (hg : zfj p = 0) (h1 : zen c.Out) (h2 : 0 ≤ IntKind.i64.wrap (now + 40)) (h3 : c.Out.Closed = false) (h4 : c.Out.Said.length < 400) :
    zw7 p now c = (0, { c with Out := { c.Out with Said := c.Out.Said ++ [txt (zuy p)], Due := c.Out.Due ++ [IntKind.i64.wrap (now + 40)] } }) := by
  unfold zw7
  rw [zoz hg, if_neg (by simp)]
  simp only
  rw [zaqz h1 h2 h3 h4, if_neg (by simp)]
theorem ztg {c : zb} (h1 : zagu c) (h2 : zen c.Out) (h3 : zab 1 (-1) c.Set = true) (h4 : c.Ripes.all zo2 = true) (h5 : c.Pending.all zpo = true) : zld c = true := by
  unfold zld
  rw [decide_eq_true h1, decide_eq_true h2, h3, h4, h5]; rfl
theorem zaq1 {now : Int} {c : zb} (h1 : zld c = true) (h2 : c.On = true) (h3 : c.Time ≤ now) (h4 : now ≤ 1099511627776) :
    endC now c = (ztf now (c.Pending.foldl (zuw now) { c with Height := IntKind.i64.wrap (c.Height + 1), Time := now }).Ripes { c.Pending.foldl (zuw now) { c with Height := IntKind.i64.wrap (c.Height + 1), Time := now } with Pending := [] }, 0) := by
  unfold endC
  rw [if_neg (by rw [h1]; simp), if_neg (by rw [h2]; simp), if_neg (by omega)]
theorem zain {c : zb} {v now : Int} (h : (z75 c v now).2 = 0) : zld c = true ∧ 0 ≤ now ∧ now ≤ 1099511627776 ∧ c.On = true ∧ 0 ≤ v ∧ v ≤ 5 ∧ zeu c.Set v ≠ 0 ∧ (zw7 ⟨3, c.Id, v, zeu c.Set v, [], []⟩ now c).1 = 0 ∧
    z75 c v now = ({ (zw7 ⟨3, c.Id, v, zeu c.Set v, [], []⟩ now c).2 with Flags := (zw7 ⟨3, c.Id, v, zeu c.Set v, [], []⟩ now c).2.Flags.set v true }, 0) := by
  unfold z75 at h ⊢
  by_cases h1 : zld c = false ∨ now < 0 ∨ 1099511627776 < now
  · rw [if_pos h1] at h; cases h
  · rw [if_neg h1] at h ⊢
    by_cases h2 : c.On = false ∨ v < 0 ∨ 5 < v ∨ zeu c.Set v = 0
    · rw [if_pos h2] at h; cases h
    · rw [if_neg h2] at h ⊢
      by_cases h3 : c.Flags.get v = true
      · rw [if_pos h3] at h; cases h
      · rw [if_neg h3] at h ⊢
        by_cases h4 : (zw7 ⟨3, c.Id, v, zeu c.Set v, [], []⟩ now c).1 = 0
        · rw [if_neg (by simpa using h4)]
          simp only [not_or] at h1 h2
          exact ⟨by simpa using h1.1, by omega, by omega, by simpa using h2.1, by omega, by omega, h2.2.2.2, h4, rfl⟩
        · rw [if_pos h4] at h
          exact absurd h h4
end Go.Proofs.YtmakmlnfbdablaaGreat.Ab
namespace Go.Proofs.YtmakmlnfbdablaaGreat.Ab
open Go Go.RowKit
set_option linter.unusedVariables false
set_option linter.unusedSimpArgs false
theorem z76 : zen ⟨[], [], 0, false⟩ := ⟨rfl, by decide, by decide, by decide, by decide⟩
theorem zank {id : Int} (h1 : 1 ≤ id) (h2 : id ≤ 1099511627776) : zfj ⟨2, id, 0, 0, [], []⟩ = 0 := by
  unfold zfj
  rw [if_neg (by simp), if_neg (by simp; omega), if_neg (by simp), if_neg (by simp [zab]), if_neg (by simp [zau])]
end Go.Proofs.YtmakmlnfbdablaaGreat.Ab
namespace Go.Proofs.YtmakmlnfbdablaaGreat.Ab
open Go Go.RowKit
set_option linter.unusedVariables false
set_option linter.unusedSimpArgs false
theorem zagw {m p q : Int} {l : List Power} (h : zab m q l = true) (hp : p ≤ q) : zab m p l = true := by
  cases l with
  | nil => rfl
  | cons a l =>
    simp only [zab, Bool.and_eq_true, decide_eq_true_eq] at h ⊢
    exact ⟨⟨⟨⟨by omega, h.1.1.1.2⟩, h.1.1.2⟩, h.1.2⟩, h.2⟩
theorem zqt {m p w n : Int} {s l : List Power} (hs : s = [] ∨ (s = [⟨w, n⟩] ∧ m ≤ n ∧ n ≤ 1125899906842624)) (hp : p < w) (hw : w ≤ 5) (hl : zab m w l = true) : zab m p (s ++ l) = true := by
  rcases hs with rfl | ⟨rfl, h1, h2⟩
  · exact zagw hl (by omega)
  · simp only [List.cons_append, List.nil_append, zab, Bool.and_eq_true, decide_eq_true_eq]
    exact ⟨⟨⟨⟨hp, hw⟩, h1⟩, h2⟩, hl⟩
theorem z35 {w n : Int} (h : n ≤ 1125899906842624) : z27 w n = [] ∨ (z27 w n = [⟨w, n⟩] ∧ (1 : Int) ≤ n ∧ n ≤ 1125899906842624) := by
  unfold z27
  by_cases hn : 0 < n
  · rw [if_pos hn]; exact .inr ⟨rfl, by omega, h⟩
  · rw [if_neg hn]; exact .inl rfl
theorem zaq2 {f : Nat → Int} (h : ∀ v, f v ≤ 1125899906842624) : zab 1 (-1) (zms f) = true := by
  rw [zab3]
  exact zqt (z35 (h 0)) (by omega) (by omega) (zqt (z35 (h 1)) (by omega) (by omega) (zqt (z35 (h 2)) (by omega) (by omega) (zqt (z35 (h 3)) (by omega) (by omega)
    (zqt (z35 (h 4)) (by omega) (by omega) (zqt (z35 (h 5)) (by omega) (by omega) rfl)))))
end Go.Proofs.YtmakmlnfbdablaaGreat.Ab
namespace Go.Proofs.YtmakmlnfbdablaaGreat.Ab
open Go Go.RowKit
set_option linter.unusedVariables false
set_option linter.unusedSimpArgs false
abbrev zj3 (L : Links) (c : Int) : zbk := ⟨L.Said.get c, L.Due.get c, L.Got.get c, L.Closed.get c⟩
def okLk (p : za) (c : Int) : Bool := !(p.Links.On.get c && p.Links.Gone.get c) && decide (0 ≤ p.Links.Base.get c) && decide (p.Links.Base.get c ≤ p.Height) && zab 1 (-1) (p.Links.Told.get c) && decide (zen (zj3 p.Links c)) && zau (-1) (p.Links.Done.get c)
def zzs (p : za) (a : Asked) : Bool := decide (0 ≤ a.C) && decide (a.C < 2) && p.Links.On.get a.C && (zfj a.P == 0) && !(a.P.Kind == 1)
def z5a (p : za) : Prop := 0 ≤ p.Height ∧ p.Height < 1099511627776 ∧ 0 ≤ p.Time ∧ p.Time ≤ 1099511627776
instance (p : za) : Decidable (z5a p) := inferInstanceAs (Decidable (_ ∧ _))
def zav (p : za) : Bool := decide (GoodS p.Stake) && decide (z5a p) && zab 1 (-1) p.Set && okLk p 0 && okLk p 1 && p.Queue.all (zzs p)
structure FitPr (R : Nat) (p : za) : Prop where
  waits : p.Stake.Waits.length * 64 ≤ R
  set : p.Set.length * 16 ≤ R
  told : ∀ c, (p.Links.Told.get c).length * 16 ≤ R
  done : ∀ c, (p.Links.Done.get c).length * 8 ≤ R
  said : ∀ c, (p.Links.Said.get c).length * 16 ≤ R
  due : ∀ c, (p.Links.Due.get c).length * 8 ≤ R
  queue : p.Queue.length * 88 ≤ R
  ps : ∀ a, a ∈ p.Queue → a.P.Set.length * 16 ≤ R ∧ a.P.Done.length * 8 ≤ R
theorem FitPr.mono {R S : Nat} {p : za} (h : FitPr R p) (hr : R ≤ S) : FitPr S p :=
  ⟨Nat.le_trans h.waits hr, Nat.le_trans h.set hr, fun c => Nat.le_trans (h.told c) hr, fun c => Nat.le_trans (h.done c) hr, fun c => Nat.le_trans (h.said c) hr, fun c => Nat.le_trans (h.due c) hr, Nat.le_trans h.queue hr,
    fun a ha => ⟨Nat.le_trans (h.ps a ha).1 hr, Nat.le_trans (h.ps a ha).2 hr⟩⟩
theorem zanl {L : Links} {c : Int} {p : za} {k : Link} {l : List Int} (hp : k.Done = l) (hl : l.length ≤ 9223372036854775807) :
    ∃ r, zrg L c l l.length 0 p k = some r ∧ (match r with | .inl b => b = false ∧ zau (-1) l = false | .inr x => x = (L, c, p) ∧ zau (-1) l = true) := by
  have := zu6 (F := fun s : Links × Int × (List Int) × Int × Int × za × Link => (zhl s.1 s.2.1 s.2.2.1 s.2.2.2.1 s.2.2.2.2.1 s.2.2.2.2.2.1 s.2.2.2.2.2.2).run)
    (fun s => s.1 = L ∧ s.2.1 = c ∧ s.2.2.1 = l ∧ s.2.2.2.1 = l.length ∧ 0 ≤ s.2.2.2.2.1 ∧ s.2.2.2.2.1 ≤ l.length ∧ s.2.2.2.2.2.1 = p ∧ s.2.2.2.2.2.2 = k ∧ (0 < s.2.2.2.2.1 → 0 ≤ zqn l s.2.2.2.2.1)) (fun s => l.length - s.2.2.2.2.1.toNat)
    (fun s r => match r with | .inl b => b = false ∧ zau (zqn l s.2.2.2.2.1) (l.drop s.2.2.2.2.1.toNat) = false | .inr x => x = (L, c, p) ∧ zau (zqn l s.2.2.2.2.1) (l.drop s.2.2.2.2.1.toNat) = true) ?_ (L, c, l, (l.length : Int), 0, p, k) ⟨rfl, rfl, rfl, rfl, by simp, by simp, rfl, rfl, by simp⟩
  · exact this
  · rintro ⟨y0, y1, x0, x1, x2, x3, x4⟩ ⟨g1, g2, h1, h2, h3, h4, h5, g3, h6⟩
    simp only at g1 g2 g3 h1 h2 h3 h4 h5 h6
    rw [g1, g2, g3, h1, h2, h5] at *
    simp only [zhl, hp]
    by_cases hc : x2 < l.length
    · have hs := zbp (l := l) (k := x2.toNat) (by omega) 0
      rw [Tr.run_true (by simpa using hc), Tr.run_guard ⟨h3, hc⟩, Tr.run_guard (by
        intro h _
        simp only [decide_eq_true_eq] at h
        rw [zp (x := x2 - 1) (by omega) (by omega)]
        exact ⟨⟨by omega, by simp only [Sl.len]; omega⟩, trivial⟩)]
      rw [hs]
      have hp : (decide (x2 > 0) && decide (l.getD (IntKind.i64.wrap (x2 - 1)).toNat 0 ≥ l.getD x2.toNat 0)) = (decide (x2 > 0) && decide (zqn l x2 ≥ l.getD x2.toNat 0)) := by
        by_cases h0 : x2 > 0
        · rw [zp (x := x2 - 1) (by omega) (by omega)]
          unfold zqn
          rw [if_neg (by omega)]
        · simp [h0]
      rw [hp]
      generalize hq : l.getD x2.toNat 0 = q at *
      by_cases hd : zqn l x2 < q ∧ q ≤ 5
      · obtain ⟨d1, d2⟩ := hd
        have hw : IntKind.i64.wrap (x2 + 1) = x2 + 1 := zp (by omega) (by omega)
        have hpv : zqn l (x2 + 1) = q := by unfold zqn; rw [if_neg (by omega), show x2 + 1 - 1 = x2 by omega, hq]
        have hq0 : 0 ≤ q := by
          by_cases h0 : x2 > 0
          · have := h6 h0; omega
          · have : zqn l x2 = -1 := by unfold zqn; rw [if_pos (by omega)]
            omega
        refine .inl ⟨_, by rw [Tr.run_false (by simp; omega), Tr.run_leaf, hw], ⟨rfl, rfl, rfl, rfl, ?_, ?_, rfl, rfl, ?_⟩, ?_, ?_⟩
        · simp only []; omega
        · simp only []; omega
        · simp only []; rw [hpv]; intro _; omega
        · simp only []; omega
        · simp only []
          rw [hpv, show (x2 + 1).toNat = x2.toNat + 1 by omega]
          intro r hr
          rw [zau, decide_eq_true d1, decide_eq_true d2]
          simpa using hr
      · refine .inr ⟨_, by rw [Tr.run_true (by
          by_cases h0 : x2 > 0
          · have := h6 h0
            simp [h0]; omega
          · have : zqn l x2 = -1 := by unfold zqn; rw [if_pos (by omega)]
            simp [h0]; omega), Tr.run_leaf], ?_⟩
        refine ⟨rfl, ?_⟩
        rw [zau]
        simp only [Bool.and_eq_false_iff, decide_eq_false_iff_not]
        omega
    · refine .inr ⟨_, by rw [Tr.run_false (by simpa using hc), Tr.run_leaf], ?_⟩
      refine ⟨rfl, ?_⟩
      rw [List.drop_eq_nil_of_le (by omega)]; rfl
theorem zaq3 {l : List Power} (hl : l.length ≤ 9223372036854775807) :
    ∃ r, zs6 l l l.length 0 = some r ∧ (match r with | .inl b => b = false ∧ zab 1 (-1) l = false | .inr x => zab 1 (-1) l = true) := by
  have := zu6 (F := fun s : (List Power) × (List Power) × Int × Int => (zix s.1 s.2.1 s.2.2.1 s.2.2.2).run)
    (fun s => s.1 = l ∧ s.2.1 = l ∧ s.2.2.1 = l.length ∧ 0 ≤ s.2.2.2 ∧ s.2.2.2 ≤ l.length ∧ -1 ≤ zhr l s.2.2.2 ∧ (0 < s.2.2.2 → 0 ≤ zhr l s.2.2.2)) (fun s => l.length - s.2.2.2.toNat)
    (fun s r => match r with | .inl b => b = false ∧ zab 1 (zhr l s.2.2.2) (l.drop s.2.2.2.toNat) = false | .inr x => zab 1 (zhr l s.2.2.2) (l.drop s.2.2.2.toNat) = true) ?_ (l, l, (l.length : Int), 0) ⟨rfl, rfl, rfl, by simp, by simp, by simp [zhr], by simp⟩
  · exact this
  · rintro ⟨y0, x0, x1, x2⟩ ⟨g1, h1, h2, h3, h4, h6, h7⟩
    simp only at g1 h1 h2 h3 h4 h6 h7
    rw [g1, h1, h2] at *
    simp only [zix]
    by_cases hc : x2 < l.length
    · have hs := zbp (l := l) (k := x2.toNat) (by omega) default
      rw [Tr.run_true (by simpa using hc), Tr.run_guard ⟨h3, hc⟩, Tr.run_guard (by
        intro h _
        simp only [decide_eq_true_eq] at h
        rw [zp (x := x2 - 1) (by omega) (by omega)]
        exact ⟨⟨by omega, by simp only [Sl.len]; omega⟩, trivial⟩)]
      rw [hs]
      have hp : (decide (x2 > 0) && decide ((l.getD (IntKind.i64.wrap (x2 - 1)).toNat default).V ≥ (l.getD x2.toNat default).V)) = (decide (x2 > 0) && decide (zhr l x2 ≥ (l.getD x2.toNat default).V)) := by
        by_cases h0 : x2 > 0
        · rw [zp (x := x2 - 1) (by omega) (by omega)]
          unfold zhr
          rw [if_neg (by omega)]
        · simp [h0]
      rw [hp]
      generalize hq : l.getD x2.toNat default = q at *
      by_cases hd : zhr l x2 < q.V ∧ q.V ≤ 5 ∧ 1 ≤ q.N ∧ q.N ≤ 1125899906842624
      · obtain ⟨d1, d2, d3, d4⟩ := hd
        have hw : IntKind.i64.wrap (x2 + 1) = x2 + 1 := zp (by omega) (by omega)
        have hpv : zhr l (x2 + 1) = q.V := by unfold zhr; rw [if_neg (by omega), show x2 + 1 - 1 = x2 by omega, hq]
        refine .inl ⟨_, by rw [Tr.run_false (by simp; omega), Tr.run_leaf, hw], ⟨rfl, rfl, rfl, ?_, ?_, ?_, ?_⟩, ?_, ?_⟩
        · simp only []; omega
        · simp only []; omega
        · simp only []; rw [hpv]; omega
        · simp only []; rw [hpv]; intro _; omega
        · simp only []; omega
        · simp only []
          rw [hpv, show (x2 + 1).toNat = x2.toNat + 1 by omega]
          intro r hr
          rw [zab, decide_eq_true d1, decide_eq_true d2, decide_eq_true d3, decide_eq_true d4]
          simpa using hr
      · refine .inr ⟨_, by rw [Tr.run_true (by
          by_cases h0 : x2 > 0
          · have := h7 h0
            simp [h0]; omega
          · have : zhr l x2 = -1 := by unfold zhr; rw [if_pos (by omega)]
            simp [h0]; omega), Tr.run_leaf], ?_⟩
        refine ⟨rfl, ?_⟩
        rw [zab]
        simp only [Bool.and_eq_false_iff, decide_eq_false_iff_not]
        omega
    · refine .inr ⟨_, by rw [Tr.run_false (by simpa using hc), Tr.run_leaf], ?_⟩
      rw [List.drop_eq_nil_of_le (by omega)]; rfl
theorem zzk {l : List Power} (hl : l.length ≤ 9223372036854775807) : zed l = some (zab 1 (-1) l) := by
  obtain ⟨r, h1, h2⟩ := zaq3 hl
  rw [zed, zn2]
  cases r with
  | inl b => rw [Tr.run_inl h1, Tr.run_leaf, h2.1, h2.2]
  | inr x => rw [Tr.run_inr h1, Tr.run_leaf, h2]
theorem za2k {p : za} {a : Asked} (h : a.P.Set.length * 16 ≤ 140737488351232 ∧ a.P.Done.length * 8 ≤ 140737488351232) : zl2 a p = some (!zzs p a, p) := by
  rw [zl2, ziy, Tr.run_guard (by
    intro h0
    simp only [Bool.or_eq_false_iff, decide_eq_false_iff_not] at h0
    exact ⟨⟨by omega, by omega⟩, trivial⟩), Tr.run_guard (fun _ => ⟨by rw [z28 h.1 h.2]; rfl, trivial⟩), Tr.run_leaf, z28 h.1 h.2]
  congr 2
  unfold zzs
  simp only [Option.getD_some]
  have e1 : decide (a.C < 0) = !decide (0 ≤ a.C) := by rw [← decide_not]; congr 1; exact propext ⟨fun h => by omega, fun h => by omega⟩
  have e2 : decide (a.C ≥ 2) = !decide (a.C < 2) := by rw [← decide_not]; congr 1; exact propext ⟨fun h => by omega, fun h => by omega⟩
  rw [e1, e2]
  simp only [Bool.not_and, Bool.not_not]
  rfl
theorem zav2 {l : List Asked} {p : za} (hl : l.length ≤ 9223372036854775807) (hp : ∀ a, a ∈ l → a.P.Set.length * 16 ≤ 140737488351232 ∧ a.P.Done.length * 8 ≤ 140737488351232) :
    zcp l p = some (!l.all (zzs p), p) := by
  obtain ⟨r, h1, h2⟩ := zie (F := fun s : (List Asked) × Int × Int × za => (zai s.1 s.2.1 s.2.2.1 s.2.2.2).run) l.length
    (fun i (_ : Unit) => (l, (l.length : Int), (i : Int), p)) (fun i _ => True) (fun i _ r => match r with | .inl k => (0 ≤ k.1 ∧ k.2 = p) ∧ (l.drop i).all (zzs p) = false | .inr q => q = p ∧ (l.drop i).all (zzs p) = true) (by
      intro t _
      refine ⟨.inr p, ?_, rfl, ?_⟩
      · simp only [zai]; rw [Tr.run_false (by simp), Tr.run_leaf]
      · rw [List.drop_length]; rfl) (by
      intro i t hi _
      have hs := zbp (l := l) (k := i) hi default
      have hm := zgu (l := l) (k := i) hi default
      simp only [zai, Int.toNat_natCast]
      rw [Tr.run_true (by simpa using hi), Tr.run_guard ⟨by omega, by show (i : Int) < (l.length : Nat); omega⟩, Tr.run_bind (za2k (hp _ hm)), hs]
      simp only [List.all_cons]
      obtain ⟨b, hb⟩ : ∃ b, b = zzs p (l.getD i default) := ⟨_, rfl⟩
      rw [← hb]
      cases b with
      | true =>
        refine .inl ⟨(), ?_, trivial, ?_⟩
        · rw [Tr.run_false (show (!true) = false from rfl), Tr.run_leaf, z6 (by omega)]
        · intro r hr
          cases r with
          | inl x => exact ⟨hr.1, by rw [hr.2]; rfl⟩
          | inr x => rw [Bool.true_and]; exact hr
      | false =>
        refine .inr ⟨.inl (i, p), ?_, ⟨by simp only []; omega, rfl⟩, by rfl⟩
        rw [Tr.run_true (show (!false) = true from rfl), Tr.run_leaf]) 0 () (by omega) trivial
  have h1 : zeo l l.length 0 p = some r := h1
  rw [zcp, zbm]
  cases r with
  | inl k =>
    simp only [List.drop_zero] at h2
    rw [Tr.run_bind (v := k) (by rw [zcx, zat, Tr.run_inl h1, Tr.run_leaf]), Tr.run_leaf, h2.2, h2.1.2]
    simp [h2.1.1]
  | inr k =>
    simp only [List.drop_zero] at h2
    rw [Tr.run_bind (v := (-1, k)) (by rw [zcx, zat, Tr.run_inr h1, Tr.run_leaf]), Tr.run_leaf, h2.2, h2.1]
    rfl
theorem zbdk (x y b c d e : Bool) : (((((x && y) || !b) || !c) || !d) || !e) = !(!(x && y) && b && c && d && e) := by
  cases x <;> cases y <;> cases b <;> cases c <;> cases d <;> cases e <;> rfl
theorem zaeo {p : za} (hf : FitPr 140737488351232 p) {c : Nat} (hc : c < 2) :
    (zdu p.Links c p).run = some (if okLk p c = true then .inl (p.Links, ((c + 1 : Nat) : Int), p) else .inr (.inl false)) := by
  simp only [zdu]
  have ht := hf.told c
  have hd := hf.done c
  rw [Tr.run_true (by simp; omega), Tr.run_guard ⟨by omega, by omega⟩, Tr.run_guard (fun _ => ⟨by rw [zzk (by omega)]; rfl, trivial⟩), Tr.run_guard (fun _ => ⟨by rw [z3y]; rfl, trivial⟩), zzk (by omega), z3y]
  simp only [Option.getD_some]
  have e : ((((((p.Links.On.get (c : Int)) && (p.Links.Gone.get (c : Int))) || (decide ((p.Links.Base.get (c : Int)) < 0))) || (decide ((p.Links.Base.get (c : Int)) > p.Height))) || (!zab 1 (-1) (p.Links.Told.get (c : Int)))) || (!decide (zen (zj3 p.Links c)))) =
      !(!(p.Links.On.get (c : Int) && p.Links.Gone.get (c : Int)) && decide (0 ≤ p.Links.Base.get (c : Int)) && decide (p.Links.Base.get (c : Int) ≤ p.Height) && zab 1 (-1) (p.Links.Told.get (c : Int)) && decide (zen (zj3 p.Links c))) := by
    have e1 : decide (p.Links.Base.get (c : Int) < 0) = !decide (0 ≤ p.Links.Base.get (c : Int)) := by rw [← decide_not]; congr 1; exact propext ⟨fun h => by omega, fun h => by omega⟩
    have e2 : decide (p.Links.Base.get (c : Int) > p.Height) = !decide (p.Links.Base.get (c : Int) ≤ p.Height) := by rw [← decide_not]; congr 1; exact propext ⟨fun h => by omega, fun h => by omega⟩
    rw [e1, e2]
    exact zbdk _ _ _ _ _ _
  rw [show zj3 p.Links (c : Int) = (⟨p.Links.Said.get (c : Int), p.Links.Due.get (c : Int), p.Links.Got.get (c : Int), p.Links.Closed.get (c : Int)⟩ : zbk) from rfl] at e
  rw [e]
  unfold okLk
  rw [show zj3 p.Links (c : Int) = (⟨p.Links.Said.get (c : Int), p.Links.Due.get (c : Int), p.Links.Got.get (c : Int), p.Links.Closed.get (c : Int)⟩ : zbk) from rfl]
  generalize (!(p.Links.On.get (c : Int) && p.Links.Gone.get (c : Int)) && decide (0 ≤ p.Links.Base.get (c : Int)) && decide (p.Links.Base.get (c : Int) ≤ p.Height) && zab 1 (-1) (p.Links.Told.get (c : Int)) && decide (zen (⟨p.Links.Said.get (c : Int), p.Links.Due.get (c : Int), p.Links.Got.get (c : Int), p.Links.Closed.get (c : Int)⟩ : zbk))) = b
  cases b with
  | false => rw [Tr.run_true (show (!false) = true from rfl), Tr.run_leaf]; rfl
  | true =>
    rw [Tr.run_false (show (!true) = false from rfl)]
    obtain ⟨r, h1, h2⟩ := zanl (L := p.Links) (c := (c : Int)) (p := p) (k := ⟨p.Links.On.get c, p.Links.Gone.get c, p.Links.Base.get c, p.Links.Told.get c, p.Links.Fresh.get c, p.Links.Done.get c, ⟨p.Links.Said.get c, p.Links.Due.get c, p.Links.Got.get c, p.Links.Closed.get c⟩, ⟨p.Links.SHeight.get c, p.Links.STime.get c, p.Links.SSaid.get c, p.Links.SGot.get c⟩⟩)
      (l := p.Links.Done.get c) rfl (by omega)
    cases r with
    | inl b => rw [Tr.run_inl h1, Tr.run_leaf, h2.1, h2.2]; rfl
    | inr x => rw [Tr.run_inr h1, Tr.run_leaf, h2.1, h2.2, z6 (by omega)]; rfl
theorem zkx {p : za} (hf : FitPr 140737488351232 p) : zbx p = some (zav p) := by
  have hs := hf.set
  have hq := hf.queue
  have loop : zks p.Links 0 p = some (if okLk p 0 = true then (if okLk p 1 = true then .inr p else .inl false) else .inl false) := by
    rw [zks]
    have t0 := zaeo hf (c := 0) (by omega)
    have t1 := zaeo hf (c := 1) (by omega)
    simp only [Int.ofNat_zero, Nat.zero_add, Int.ofNat_one] at t0 t1
    by_cases h0 : okLk p 0 = true
    · rw [if_pos h0] at t0 ⊢
      rw [zcv (s' := (p.Links, ((1 : Nat) : Int), p)) t0]
      by_cases h1 : okLk p 1 = true
      · rw [if_pos h1] at t1 ⊢
        rw [zcv (s' := (p.Links, ((2 : Nat) : Int), p)) t1, ze8 (r := .inr p) (by
          show (zdu p.Links 2 p).run = _
          simp only [zdu]
          rw [Tr.run_false (by simp), Tr.run_leaf])]
      · rw [if_neg h1] at t1 ⊢
        rw [ze8 (r := .inl false) t1]
    · rw [if_neg h0] at t0 ⊢
      rw [ze8 (r := .inl false) t0]
  rw [zbx, zl3, Tr.run_bind (zyo p.Stake), Tr.run_guard (fun _ => ⟨by rw [zzk (by omega)]; rfl, trivial⟩), zzk (by omega)]
  simp only [Option.getD_some]
  have e : ((((((!decide (GoodS p.Stake)) || (decide (p.Height < 0))) || (decide (p.Height ≥ 1099511627776))) || (decide (p.Time < 0))) || (decide (p.Time > 1099511627776))) || (!zab 1 (-1) p.Set)) = !(decide (GoodS p.Stake) && decide (z5a p) && zab 1 (-1) p.Set) := by
    rw [Bool.eq_iff_iff]
    simp only [Bool.or_eq_true, Bool.not_eq_true', decide_eq_false_iff_not, decide_eq_true_eq, Bool.and_eq_false_iff]
    unfold z5a
    constructor
    · rintro (((((h | h) | h) | h) | h) | h)
      · exact .inl (.inl h)
      · exact .inl (.inr (by omega))
      · exact .inl (.inr (by omega))
      · exact .inl (.inr (by omega))
      · exact .inl (.inr (by omega))
      · exact .inr h
    · rintro ((h | h) | h)
      · exact .inl (.inl (.inl (.inl (.inl h))))
      · rcases (show p.Height < 0 ∨ p.Height ≥ 1099511627776 ∨ p.Time < 0 ∨ p.Time > 1099511627776 by omega) with k | k | k | k
        · exact .inl (.inl (.inl (.inl (.inr k))))
        · exact .inl (.inl (.inl (.inr k)))
        · exact .inl (.inl (.inr k))
        · exact .inl (.inr k)
      · exact .inr h
  rw [e]
  unfold zav
  generalize (decide (GoodS p.Stake) && decide (z5a p) && zab 1 (-1) p.Set) = b
  cases b with
  | false => rw [Tr.run_true (show (!false) = true from rfl), Tr.run_leaf]; rfl
  | true =>
    rw [Tr.run_false (show (!true) = false from rfl)]
    by_cases h0 : okLk p 0 = true
    · rw [if_pos h0] at loop
      by_cases h1 : okLk p 1 = true
      · rw [if_pos h1] at loop
        rw [Tr.run_inr loop, Tr.run_bind (zav2 (by omega) hf.ps), Tr.run_leaf, h0, h1]
        simp
      · rw [if_neg h1] at loop
        rw [Tr.run_inl loop, Tr.run_leaf, h0, Bool.eq_false_iff.2 h1]
        rfl
    · rw [if_neg h0] at loop
      rw [Tr.run_inl loop, Tr.run_leaf, Bool.eq_false_iff.2 h0]
      rfl
end Go.Proofs.YtmakmlnfbdablaaGreat.Ab
namespace Go.Proofs.YtmakmlnfbdablaaGreat.Ab
open Go Go.RowKit
set_option linter.unusedVariables false
set_option linter.unusedSimpArgs false
structure zbdl (p : za) : Prop where
  waits : p.Stake.Waits.length ≤ 9223372036854775807
  set : p.Set.length ≤ 9223372036854775807
  told : ∀ c, (p.Links.Told.get c).length ≤ 9223372036854775807
  done : ∀ c, (p.Links.Done.get c).length ≤ 9223372036854775807
  said : ∀ c, (p.Links.Said.get c).length ≤ 9223372036854775807
  due : ∀ c, (p.Links.Due.get c).length ≤ 9223372036854775807
  queue : p.Queue.length ≤ 9223372036854775807
  ps : ∀ a, a ∈ p.Queue → a.P.Set.length ≤ 9223372036854775807 ∧ a.P.Done.length ≤ 9223372036854775807
theorem FitPr.len {R : Nat} {p : za} (h : FitPr R p) (hR : R ≤ 9223372036854775807) : zbdl p :=
  ⟨by have := h.waits; omega, by have := h.set; omega, fun c => by have := h.told c; omega, fun c => by have := h.done c; omega, fun c => by have := h.said c; omega, fun c => by have := h.due c; omega, by have := h.queue; omega,
    fun a ha => by have := h.ps a ha; omega⟩
end Go.Proofs.YtmakmlnfbdablaaGreat.Ab
namespace Go.Proofs.YtmakmlnfbdablaaGreat.Ab
open Go Go.RowKit
set_option linter.unusedVariables false
set_option linter.unusedSimpArgs false
theorem z3e {α : Type} {t e : Tr α} : (Tr.ite (!true) t e).run = e.run := Tr.run_false (show (!true) = false from rfl)
theorem z3f {α : Type} {t e : Tr α} : (Tr.ite (!false) t e).run = t.run := Tr.run_true (show (!false) = true from rfl)
def newM (x t : Int) : Meter := ⟨if x < 5 then 1 else x / 5, IntKind.i64.wrap (t + 10)⟩
def zakc (m : Meter) (x t : Int) : Meter := if m.Next ≤ t then newM x t else m
def zagx (m : Meter) (n : Int) : Meter × Bool := if m.Left ≤ 0 then (m, false) else (⟨IntKind.i64.wrap (m.Left - n), m.Next⟩, true)
theorem zanm {x t : Int} (hx : i64 x) : zsp x t = some (newM x t) := by
  have h : zli x = some (if x < 5 then 1 else x / 5) := by
    rw [zli, zin, Tr.run_guard (by decide), Tr.run_leaf]
    unfold i64 at hx
    by_cases h5 : x < 5
    · have : Int.tdiv x 5 < 1 := by
        by_cases h0 : 0 ≤ x
        · rw [Int.tdiv_eq_ediv_of_nonneg h0]; omega
        · have : Int.tdiv x 5 ≤ 0 := by
            have h1 : Int.tdiv (-x) 5 = - Int.tdiv x 5 := Int.neg_tdiv x 5
            rw [Int.tdiv_eq_ediv_of_nonneg (by omega)] at h1
            omega
          omega
      have hl : -9223372036854775808 ≤ Int.tdiv x 5 := by
        by_cases h0 : 0 ≤ x
        · rw [Int.tdiv_eq_ediv_of_nonneg h0]; omega
        · have h1 : Int.tdiv (-x) 5 = - Int.tdiv x 5 := Int.neg_tdiv x 5
          rw [Int.tdiv_eq_ediv_of_nonneg (by omega)] at h1
          omega
      rw [zp (by omega) (by omega), if_neg (by omega), if_pos h5]
    · rw [Int.tdiv_eq_ediv_of_nonneg (by omega), zp (by omega) (by omega), if_neg h5]
      split
      · rfl
      · congr 1; omega
  rw [zsp, zve, Tr.run_bind h, Tr.run_leaf]; rfl
theorem zaio {m : Meter} {x t : Int} (hx : i64 x) : zqb m x t = some (zakc m x t) := by
  rw [zqb, zsq]
  unfold zakc
  by_cases h : m.Next ≤ t
  · rw [Tr.run_true (by simpa using h), Tr.run_bind (zanm hx), Tr.run_leaf, if_pos h]
  · rw [Tr.run_false (by simpa using h), Tr.run_leaf, if_neg h]
theorem zaip {m : Meter} {n : Int} : zio m n = some (zagx m n) := by
  rw [zio, zsr]
  unfold zagx
  by_cases h : m.Left ≤ 0
  · rw [Tr.run_true (by simpa using h), Tr.run_leaf, if_pos h]
  · rw [Tr.run_false (by simpa using h), Tr.run_leaf, if_neg h]
def zaep : za := ⟨0, 0, newS, [], default, newM 0 0, []⟩
theorem zakd : zrf = some zaep := by
  rw [zrf, zn1, Tr.run_bind zagq, Tr.run_bind (zanm (by unfold i64; omega)), Tr.run_leaf]; rfl
def zdw (p : za) (d v n : Int) : za × Int :=
  if zav p = true then (if (zcd p.Stake d v n).2 ≠ 0 then (p, (zcd p.Stake d v n).2) else ({ p with Stake := (zcd p.Stake d v n).1 }, 0)) else (p, 2)
theorem z77 {p : za} (hf : FitPr 140737488351232 p) {d v n : Int} (hn : n ≤ 9223372036854775807) : zja p d v n = some (zdw p d v n) := by
  rw [zja, zgp, Tr.run_bind (zkx hf)]
  unfold zdw
  by_cases hg : zav p = true
  · rw [hg, z3e, if_pos rfl, Tr.run_bind (zagk hn)]
    by_cases h0 : (zcd p.Stake d v n).2 ≠ 0
    · rw [Tr.run_true (by simpa using h0), Tr.run_leaf, if_pos h0]
    · rw [Tr.run_false (by simpa using h0), Tr.run_leaf, if_neg h0]
  · rw [Bool.eq_false_iff.2 hg, z3f, Tr.run_leaf]; rfl
def z78 (p : za) (now : Int) : Wait := ⟨0, 0, 0, 0, p.Height + 1, now + 20, if p.Links.On.x0 = true then p.Height + 1 else 0, if p.Links.On.x1 = true then p.Height + 1 else 0⟩
def zaeq (L : Links) : Links := { L with Fresh := ⟨L.Fresh.x0 || L.On.x0, L.Fresh.x1 || L.On.x1⟩ }
def zdo (p : za) (d v k now : Int) : za × Int :=
  if zav p = true ∧ 0 ≤ now ∧ now ≤ 1099511627776 then
    (if (zbq p.Stake d v k (z78 p now)).2 ≠ 0 then (p, (zbq p.Stake d v k (z78 p now)).2) else ({ p with Stake := (zbq p.Stake d v k (z78 p now)).1, Links := zaeq p.Links }, 0))
  else (p, 2)
theorem zky {p : za} (h : zav p = true) : GoodS p.Stake ∧ z5a p ∧ zab 1 (-1) p.Set = true ∧ okLk p 0 = true ∧ okLk p 1 = true ∧ p.Queue.all (zzs p) = true := by
  unfold zav at h
  simp only [Bool.and_eq_true, decide_eq_true_eq] at h
  exact ⟨h.1.1.1.1.1, h.1.1.1.1.2, h.1.1.1.2, h.1.1.2, h.1.2, h.2⟩
theorem zaai {p : za} {now : Int} : (((!zav p) || (decide (now < 0))) || (decide (now > 1099511627776))) = !decide (zav p = true ∧ 0 ≤ now ∧ now ≤ 1099511627776) := by
  rw [Bool.eq_iff_iff]
  simp only [Bool.or_eq_true, Bool.not_eq_true', decide_eq_true_eq, decide_eq_false_iff_not]
  cases zav p <;> simp <;> omega
theorem z36 {p : za} (hf : FitPr 140737488351232 p) {d v k now : Int} (hk : k ≤ 9223372036854775807) : zbt p d v k now = some (zdo p d v k now) := by
  rw [zbt, ze4, Tr.run_bind (zkx hf)]
  unfold zdo
  by_cases hg : zav p = true ∧ 0 ≤ now ∧ now ≤ 1099511627776
  · rw [if_pos hg]
    obtain ⟨g1, g2, -⟩ := zky hg.1
    unfold z5a at g2
    have turn : ∀ (c : Nat), c < 2 → ∀ (q : za) (w : Wait), (zbg d v k c p q w).run = some (.inl (d, v, k, ((c + 1 : Nat) : Int), p, q, if p.Links.On.get c = true then { w with h0 := if (c : Int) = 0 then p.Height + 1 else w.h0, h1 := if (c : Int) = 1 then p.Height + 1 else w.h1 } else w)) := by
      intro c hc q w
      simp only [zbg]
      rw [Tr.run_true (by simp; omega), Tr.run_guard ⟨by omega, by omega⟩]
      by_cases ho : p.Links.On.get c = true
      · rw [Tr.run_true ho, Tr.run_guard ⟨by omega, by omega⟩, Tr.run_leaf, z6 (by omega), if_pos ho, zp (by omega) (by omega)]
      · rw [Tr.run_false (Bool.eq_false_iff.2 ho), Tr.run_leaf, z6 (by omega), if_neg ho]
    have hw : zfd d v k 0 p default ⟨0, 0, 0, 0, p.Height + 1, now + 20, 0, 0⟩ = some (d, v, k, p, default, z78 p now) := by
      rw [zfd, zcv (s' := (d, v, k, ((1 : Nat) : Int), p, _, _)) (turn 0 (by omega) _ _), zcv (s' := (d, v, k, ((2 : Nat) : Int), p, _, _)) (turn 1 (by omega) _ _), ze8 (by
        show (zbg d v k 2 p _ _).run = _
        simp only [zbg]
        rw [Tr.run_false (by simp), Tr.run_leaf])]
      have e0 : p.Links.On.get ((0 : Nat) : Int) = p.Links.On.x0 := rfl
      have e1 : p.Links.On.get ((1 : Nat) : Int) = p.Links.On.x1 := rfl
      rw [e0, e1]
      unfold z78
      cases p.Links.On.x0 <;> cases p.Links.On.x1 <;> rfl
    rw [Tr.run_false (by rw [zaai, decide_eq_true hg]; rfl), zp (x := p.Height + 1) (by omega) (by omega), zp (x := now + 20) (by omega) (by omega), Tr.run_bind hw]
    simp only []
    rw [Tr.run_bind (zacd hk)]
    by_cases h0 : (zbq p.Stake d v k (z78 p now)).2 ≠ 0
    · rw [Tr.run_true (by simpa using h0), Tr.run_leaf, if_pos h0]
    · rw [Tr.run_false (by simpa using h0), if_neg h0]
      have turn2 : ∀ (c : Nat), c < 2 → ∀ (p q : za), (zbh c p q).run = some (.inl (((c + 1 : Nat) : Int), { p with Links := { p.Links with Fresh := p.Links.Fresh.set c (p.Links.Fresh.get c || p.Links.On.get c) } }, q)) := by
        intro c hc p q
        simp only [zbh]
        rw [Tr.run_true (by simp; omega), Tr.run_guard ⟨by omega, by omega⟩, Tr.run_guard (fun _ => ⟨⟨by omega, by omega⟩, trivial⟩), Tr.run_guard ⟨by omega, by omega⟩, Tr.run_leaf, z6 (by omega)]
      rw [Tr.run_bind (v := ({ p with Stake := (zbq p.Stake d v k (z78 p now)).1, Links := zaeq p.Links }, default)) (by
        rw [zjx, zcv (s' := (((1 : Nat) : Int), _, _)) (turn2 0 (by omega) _ _), zcv (s' := (((2 : Nat) : Int), _, _)) (turn2 1 (by omega) _ _), ze8 (by
          show (zbh 2 _ _).run = _
          simp only [zbh]
          rw [Tr.run_false (by simp), Tr.run_leaf])]
        rfl), Tr.run_leaf]
  · rw [if_neg hg, Tr.run_true (by rw [zaai, decide_eq_false hg]; rfl), Tr.run_leaf]
end Go.Proofs.YtmakmlnfbdablaaGreat.Ab
namespace Go.Proofs.YtmakmlnfbdablaaGreat.Ab
open Go Go.RowKit
set_option linter.unusedVariables false
set_option linter.unusedSimpArgs false
theorem z3g : ∀ {l : List Int} {p : Int}, zau p l = true → (∀ q, q ∈ l → p < q ∧ q ≤ 5) ∧ l.Pairwise (· < ·)
  | [], p, h => ⟨by simp, .nil⟩
  | q :: l, p, h => by
    simp only [zau, Bool.and_eq_true, decide_eq_true_eq] at h
    obtain ⟨h1, h2⟩ := z3g h.2
    refine ⟨fun x hx => ?_, List.pairwise_cons.2 ⟨fun x hx => (h1 x hx).1, h2⟩⟩
    rcases List.mem_cons.1 hx with rfl | hx
    · exact h.1
    · have := h1 x hx; omega
theorem zaer : ∀ {l : List Int} {p : Int}, (∀ q, q ∈ l → p < q ∧ q ≤ 5) → l.Pairwise (· < ·) → zau p l = true
  | [], p, _, _ => rfl
  | q :: l, p, h1, h2 => by
    have hq := h1 q (List.mem_cons_self ..)
    rw [List.pairwise_cons] at h2
    simp only [zau, Bool.and_eq_true, decide_eq_true_eq]
    exact ⟨hq, zaer (fun x hx => ⟨h2.1 x hx, (h1 x (List.mem_cons_of_mem _ hx)).2⟩) h2.2⟩
theorem zagy : ∀ {l m : List Int}, l.Pairwise (· < ·) → m.Pairwise (· < ·) → (∀ p, p ∈ l ↔ p ∈ m) → l = m
  | [], [], _, _, _ => rfl
  | [], b :: m, _, _, h => by have := (h b).2 (List.mem_cons_self ..); cases this
  | a :: l, [], _, _, h => by have := (h a).1 (List.mem_cons_self ..); cases this
  | a :: l, b :: m, hl, hm, h => by
    rw [List.pairwise_cons] at hl hm
    have hab : a = b := by
      rcases List.mem_cons.1 ((h a).1 (List.mem_cons_self ..)) with h1 | h1
      · exact h1
      · rcases List.mem_cons.1 ((h b).2 (List.mem_cons_self ..)) with h2 | h2
        · exact h2.symm
        · have k1 := hm.1 a h1
          have k2 := hl.1 b h2
          omega
    subst hab
    congr 1
    refine zagy hl.2 hm.2 fun p => ⟨fun hp => ?_, fun hp => ?_⟩
    · rcases List.mem_cons.1 ((h p).1 (List.mem_cons_of_mem _ hp)) with h1 | h1
      · have := hl.1 p hp; omega
      · exact h1
    · rcases List.mem_cons.1 ((h p).2 (List.mem_cons_of_mem _ hp)) with h1 | h1
      · have := hm.1 p hp; omega
      · exact h1
theorem zav3 (a b : Int) : zrj a b = some (decide (a < b)) := by
  have h : ∀ x, zg4 x = some false := fun x => by rw [zg4, zl6, Tr.run_leaf]; simp
  rw [zrj, zn3, Tr.run_bind (h a), Tr.run_guard (fun e => by cases e), Tr.run_leaf]
  simp
theorem zaiq (x : Int) : zb0 x = some false := by rw [zb0, zhm, Tr.run_leaf]; simp
theorem zagz {l : List Int} (h : l.Pairwise (· < ·)) {x y : Nat} (hxy : x < y) (hy : y < l.length) : l.getD x 0 < l.getD y 0 := by
  have := List.pairwise_iff_getElem.1 h x y (by omega) hy hxy
  rw [List.getD_eq_getElem?_getD, List.getD_eq_getElem?_getD, List.getElem?_eq_getElem hy, List.getElem?_eq_getElem (show x < l.length by omega)]
  exact this
def zaes (l : List Int) (v k : Int) : Prop := 0 ≤ k ∧ k ≤ l.length ∧ (∀ x : Nat, (x : Int) < k → l.getD x 0 < v) ∧ (∀ x : Nat, k ≤ x → x < l.length → v ≤ l.getD x 0)
theorem zann {l : List Int} (hs : l.Pairwise (· < ·)) (hl : l.length ≤ 1000) (v : Int) :
    ∃ k, zg5 l v l.length 0 l.length = some (l, v, (l.length : Int), k) ∧ zaes l v k := by
  have := zu6 (F := fun s : (List Int) × Int × Int × Int × Int => (zb3 s.1 s.2.1 s.2.2.1 s.2.2.2.1 s.2.2.2.2).run)
    (fun s => s.1 = l ∧ s.2.1 = v ∧ s.2.2.1 = l.length ∧ (0 ≤ s.2.2.2.1 ∧ s.2.2.2.1 ≤ s.2.2.2.2 ∧ s.2.2.2.2 ≤ l.length) ∧ (∀ x : Nat, (x : Int) < s.2.2.2.1 → l.getD x 0 < v) ∧ (∀ x : Nat, s.2.2.2.2 ≤ x → x < l.length → v ≤ l.getD x 0))
    (fun s => (s.2.2.2.2 - s.2.2.2.1).toNat) (fun s r => ∃ k, r = (l, v, (l.length : Int), k) ∧ zaes l v k) ?_ (l, v, (l.length : Int), 0, (l.length : Int)) ⟨rfl, rfl, rfl, ⟨by simp, by simp, by simp⟩, by intro x hx; simp only [] at hx; omega, by intro x hx h2; simp only [] at hx; omega⟩
  · obtain ⟨r, h1, k, rfl, h3⟩ := this
    exact ⟨k, h1, h3⟩
  · rintro ⟨x0, x1, x2, i, j⟩ ⟨h1, h2, h3, ⟨h4, h5, h6⟩, h7, h8⟩
    simp only at h1 h2 h3 h4 h5 h6 h7 h8
    rw [h1, h2, h3] at *
    simp only [zb3]
    by_cases hc : i < j
    · have hm : IntKind.i64.wrap (Int.fdiv (IntKind.u64.wrap (IntKind.i64.wrap (i + j))) (2 ^ 1)) = (i + j) / 2 := by
        rw [zp (x := i + j) (by omega) (by omega), zamj (by omega) (by omega), Int.fdiv_eq_ediv_of_nonneg _ (by decide), zp (by omega) (by omega)]
        rfl
      rw [hm]
      generalize hmm : (i + j) / 2 = m
      have m1 : i ≤ m := by omega
      have m2 : m < j := by omega
      rw [Tr.run_true (by simpa using hc), Tr.run_guard (by decide), Tr.run_guard ⟨by omega, by show m < (l.length : Nat); omega⟩, Tr.run_bind (zav3 _ _)]
      by_cases hlt : l.getD m.toNat 0 < v
      · refine .inl ⟨(l, v, (l.length : Int), m + 1, j), by rw [Tr.run_true (by simpa using hlt), Tr.run_leaf, zp (by omega) (by omega)], ⟨rfl, rfl, rfl, ⟨by simp only []; omega, by simp only []; omega, by simp only []; omega⟩, ?_, h8⟩, by simp only []; omega, fun r hr => hr⟩
        intro x hx
        simp only [] at hx
        by_cases hxm : x = m.toNat
        · rw [hxm]; exact hlt
        · have := zagz hs (x := x) (y := m.toNat) (by omega) (by omega)
          omega
      · refine .inl ⟨(l, v, (l.length : Int), i, m), by rw [Tr.run_false (by simpa using hlt), Tr.run_leaf], ⟨rfl, rfl, rfl, ⟨by simp only []; omega, by simp only []; omega, by simp only []; omega⟩, h7, ?_⟩, by simp only []; omega, fun r hr => hr⟩
        intro x hx hx2
        simp only [] at hx
        by_cases hxm : x = m.toNat
        · rw [hxm]; omega
        · have := zagz hs (x := m.toNat) (y := x) (by omega) hx2
          omega
    · refine .inr ⟨(l, v, (l.length : Int), i), by rw [Tr.run_false (by simpa using hc), Tr.run_leaf], i, rfl, h4, by omega, h7, fun x hx => h8 x (by omega)⟩
theorem zano {l : List Int} (hs : l.Pairwise (· < ·)) (hl : l.length ≤ 1000) (v : Int) : ∃ k, zy l v = some (k, decide (v ∈ l)) ∧ zaes l v k := by
  obtain ⟨k, h1, h2⟩ := zann hs hl v
  refine ⟨k, ?_, h2⟩
  obtain ⟨k0, k1, k2, k3⟩ := h2
  have hin : decide (k < (l.length : Int)) = true → (0 : Int) ≤ k ∧ k < ((Sl.len (.ints l) : Nat) : Int) := fun h => ⟨k0, by simpa [Sl.len] using h⟩
  rw [zy, zde, Tr.run_bind h1]
  simp only []
  rw [Tr.run_guard (fun h => ⟨hin h, trivial⟩), Tr.run_guard (fun _ h => ⟨hin h, trivial⟩), Tr.run_guard (fun _ _ => ⟨by rw [zaiq]; rfl, trivial⟩), Tr.run_guard (fun _ _ _ => ⟨by rw [zaiq]; rfl, trivial⟩), Tr.run_leaf, zaiq, zaiq]
  simp only [Option.getD_some, Bool.and_false, Bool.or_false]
  congr 2
  rw [Bool.eq_iff_iff]
  simp only [Bool.and_eq_true, decide_eq_true_eq, beq_iff_eq]
  constructor
  · rintro ⟨hk, he⟩
    rw [← he]
    exact zgu (by omega) 0
  · intro hv
    obtain ⟨x, hx, he⟩ := List.getElem_of_mem hv
    have hg : l.getD x 0 = v := by rw [List.getD_eq_getElem?_getD, List.getElem?_eq_getElem hx]; exact he
    have hkx : k ≤ x := by
      rcases Int.lt_or_le (x : Int) k with h | h
      · have := k2 x h; omega
      · exact h
    refine ⟨by omega, ?_⟩
    have h3 := k3 k.toNat (by omega) (by omega)
    by_cases hxk : x = k.toNat
    · rw [← hxk]; exact hg
    · have := zagz hs (x := k.toNat) (y := x) (by omega) hx
      omega
def insD (l : List Int) (v : Int) : List Int := ((List.range 6).map (fun (u : Nat) => (u : Int))).filter (fun u => u == v || decide (u ∈ l))
theorem range_pw : ((List.range 6).map (fun (u : Nat) => (u : Int))).Pairwise (· < ·) := by decide
theorem zag0 (l : List Int) (v : Int) : (insD l v).Pairwise (· < ·) := range_pw.sublist List.filter_sublist
theorem zake {u : Int} : u ∈ (List.range 6).map (fun (u : Nat) => (u : Int)) ↔ 0 ≤ u ∧ u ≤ 5 := by
  rw [List.mem_map]
  constructor
  · rintro ⟨x, hx, rfl⟩; rw [List.mem_range] at hx; omega
  · intro h; exact ⟨u.toNat, by rw [List.mem_range]; omega, by omega⟩
theorem mem_insD {l : List Int} {v u : Int} : u ∈ insD l v ↔ (0 ≤ u ∧ u ≤ 5) ∧ (u = v ∨ u ∈ l) := by
  unfold insD; rw [List.mem_filter, zake]; simp
theorem zanq (l : List Int) (v : Int) : zau (-1) (insD l v) = true := zaer (fun q hq => by have := (mem_insD.1 hq).1; omega) (zag0 l v)
theorem zav4 {l : List Int} {v : Int} (h : zau (-1) l = true) (hv : v ∈ l) : insD l v = l := by
  obtain ⟨h1, h2⟩ := z3g h
  refine zagy (zag0 l v) h2 fun u => ?_
  rw [mem_insD]
  constructor
  · rintro ⟨_, rfl | h⟩ <;> assumption
  · intro hu; have := h1 u hu; exact ⟨by omega, .inr hu⟩
theorem zaq4 {l : List Int} {v k : Int} (h : zau (-1) l = true) (hv : v ∉ l) (hv5 : 0 ≤ v ∧ v ≤ 5) (hk : zaes l v k) : l.take k.toNat ++ [v] ++ l.drop k.toNat = insD l v := by
  obtain ⟨h1, h2⟩ := z3g h
  obtain ⟨k0, k1, k2, k3⟩ := hk
  have htake : ∀ x, x ∈ l.take k.toNat → x < v := by
    intro x hx
    obtain ⟨i, hi, rfl⟩ := List.getElem_of_mem hx
    rw [List.length_take] at hi
    have := k2 i (by omega)
    rw [List.getD_eq_getElem?_getD, List.getElem?_eq_getElem (by omega)] at this
    rw [List.getElem_take]; exact this
  have hdrop : ∀ x, x ∈ l.drop k.toNat → v < x := by
    intro x hx
    have hm : x ∈ l := List.mem_of_mem_drop hx
    obtain ⟨i, hi, rfl⟩ := List.getElem_of_mem hx
    rw [List.length_drop] at hi
    have := k3 (k.toNat + i) (by omega) (by omega)
    rw [List.getD_eq_getElem?_getD, List.getElem?_eq_getElem (by omega)] at this
    rw [List.getElem_drop] at hm ⊢
    have hne : l[k.toNat + i] ≠ v := fun e => hv (e ▸ hm)
    have h3 : v ≤ l[k.toNat + i] := this
    omega
  refine zagy ?_ (zag0 l v) fun u => ?_
  · rw [List.append_assoc, List.pairwise_append]
    refine ⟨h2.sublist (List.take_sublist _ _), ?_, ?_⟩
    · rw [List.singleton_append, List.pairwise_cons]
      exact ⟨hdrop, h2.sublist (List.drop_sublist _ _)⟩
    · intro a ha b hb
      rw [List.singleton_append] at hb
      rcases List.mem_cons.1 hb with rfl | hb
      · exact htake a ha
      · have := htake a ha; have := hdrop b hb; omega
  · rw [mem_insD, List.append_assoc, List.mem_append, List.singleton_append, List.mem_cons]
    constructor
    · rintro (hu | rfl | hu)
      · have hm := List.mem_of_mem_take hu
        have := h1 u hm
        exact ⟨by omega, .inr hm⟩
      · exact ⟨hv5, .inl rfl⟩
      · have hm := List.mem_of_mem_drop hu
        have := h1 u hm
        exact ⟨by omega, .inr hm⟩
    · rintro ⟨_, rfl | hu⟩
      · exact .inr (.inl rfl)
      · rw [← List.take_append_drop k.toNat l, List.mem_append] at hu
        exact hu.imp id .inr
end Go.Proofs.YtmakmlnfbdablaaGreat.Ab
namespace Go.Proofs.YtmakmlnfbdablaaGreat.Ab
open Go Go.RowKit
set_option linter.unusedVariables false
set_option linter.unusedSimpArgs false
def z37 (p : za) (v : Int) : Int := if (IntKind.i64.wrap (Int.tdiv (p.Stake.Validators.Tokens.get v) 100)) > 1 then (IntKind.i64.wrap (Int.tdiv (p.Stake.Validators.Tokens.get v) 100)) else 1
def zanr (p : za) (c v : Int) : za := { p with Links := { p.Links with Done := p.Links.Done.set c (insD (p.Links.Done.get c) v) } }
def zbdm (p : za) (a : Asked) : Int := if (p.Links.Base.get a.C) > a.P.Id then (p.Links.Base.get a.C) else a.P.Id
def zacm (p : za) (a : Asked) : za × Bool :=
  if a.P.Kind = 2 then ({ p with Stake := zte p.Stake a.C a.P.Id }, true)
  else if a.P.Kind = 4 then (if p.Stake.Validators.Dead.get a.P.V = true then (p, true) else ({ p with Stake := (zcw (zi8 p.Stake a.P.V (zbdm p a) 50).1 a.P.V 2).1 }, true))
  else if p.Stake.Validators.Jailed.get a.P.V = true then (zanr p a.C a.P.V, true)
  else if (zagx p.Meter (z37 p a.P.V)).2 = true then (zanr { p with Stake := (zcw p.Stake a.P.V 0).1, Meter := (zagx p.Meter (z37 p a.P.V)).1 } a.C a.P.V, true)
  else (p, false)
structure zans (p : za) (a : Asked) : Prop where
  v : 0 ≤ a.P.V ∧ a.P.V ≤ 5
  c : 0 ≤ a.C ∧ a.C < 2
  k : a.P.Kind = 2 ∨ a.P.Kind = 3 ∨ a.P.Kind = 4
  w : p.Stake.Waits.length * 64 ≤ 140737488351232
  d : zau (-1) (p.Links.Done.get a.C) = true
theorem zru {α : Type} (a : A2 α) {c : Int} (hc : 0 ≤ c ∧ c < 2) : a.set c (a.get c) = a := by
  rcases (show c = 0 ∨ c = 1 by omega) with rfl | rfl <;> rfl
theorem z50 {l : List Int} (h : zau (-1) l = true) : l.length ≤ 6 := by
  have := zzg h (by omega); omega
theorem zant {p : za} {a : Asked} (hf : zans p a) (hv : a.P.V ∈ p.Links.Done.get a.C) : zanr p a.C a.P.V = p := by
  unfold zanr
  rw [zav4 hf.d hv, zru _ hf.c]
theorem zanu {l : List Int} {k v : Int} (hl : l.length ≤ 6) (hk : zaes l v k) : zcf l k [v] = some (l.take k.toNat ++ [v] ++ l.drop k.toNat) := by
  unfold zcf insP
  rw [if_pos ⟨hk.1, hk.2.1, by simp, by simp; omega⟩]
theorem zav5 {p : za} {a : Asked} (hf : zans p a) : zpa a p = some ((zacm p a).2, (zacm p a).1) := by
  obtain ⟨hv, hc, hk, hw, hd⟩ := hf
  have hl := z50 hd
  obtain ⟨pk, hs, hpl⟩ := zano (z3g hd).2 (by omega) a.P.V
  have hcl := zad3 (l := p.Links.Done.get a.C) (by omega)
  have hin := zanu hl hpl
  have hmem : (!decide (a.P.V ∈ p.Links.Done.get a.C)) = true → (p.Links.Done.get a.C).take pk.toNat ++ [a.P.V] ++ (p.Links.Done.get a.C).drop pk.toNat = insD (p.Links.Done.get a.C) a.P.V := by
    intro h
    exact zaq4 hd (by simpa using h) hv hpl
  rw [zpa, zl7, Tr.run_guard ⟨by omega, by omega⟩, Tr.run_guard hc]
  unfold zacm
  by_cases k2 : a.P.Kind = 2
  · rw [Tr.run_true (by simpa using k2), Tr.run_guard (by rw [z33 hw]; rfl), Tr.run_leaf, z33 hw, if_pos k2]; rfl
  · rw [Tr.run_false (by simpa using k2), if_neg k2]
    by_cases k4 : a.P.Kind = 4
    · rw [if_pos k4, Tr.run_false (by rw [k4]; decide), Tr.run_true (by simpa using k4)]
      by_cases hdd : p.Stake.Validators.Dead.get a.P.V = true
      · rw [if_pos hdd, hdd, z3e, Tr.run_leaf]
      · rw [if_neg hdd, Bool.eq_false_iff.2 hdd, z3f, Tr.run_guard (by rw [zach]; rfl), zach]
        simp only [Option.getD_some]
        rw [Tr.run_guard (by rw [zagm]; rfl), Tr.run_leaf, zagm]; rfl
    · have k3 : a.P.Kind = 3 := by omega
      rw [if_neg k4, Tr.run_true (by simpa using k3)]
      by_cases hj : p.Stake.Validators.Jailed.get a.P.V = true
      · rw [if_pos hj, hj, z3e, Tr.run_guard (by rw [hs]; rfl), hs]
        simp only [Option.getD_some]
        by_cases hm : a.P.V ∈ p.Links.Done.get a.C
        · rw [decide_eq_true hm, z3e, Tr.run_leaf, zant ⟨hv, hc, hk, hw, hd⟩ hm]
        · rw [decide_eq_false hm, z3f, Tr.run_guard (by rw [hcl]; rfl), hcl]
          simp only [Option.getD_some]
          rw [Tr.run_guard (by rw [hin]; rfl), Tr.run_leaf, hin, Option.getD_some, hmem (by simpa using hm)]
          rfl
      · rw [if_neg hj, Bool.eq_false_iff.2 hj, z3f, Tr.run_guard (by decide), Tr.run_guard (by rw [zaip]; rfl), zaip]
        simp only [Option.getD_some]
        rw [show (if (IntKind.i64.wrap (Int.tdiv (p.Stake.Validators.Tokens.get a.P.V) 100)) > 1 then (IntKind.i64.wrap (Int.tdiv (p.Stake.Validators.Tokens.get a.P.V) 100)) else 1) = z37 p a.P.V from rfl]
        by_cases ht : (zagx p.Meter (z37 p a.P.V)).2 = true
        · rw [if_pos ht, ht, z3e, Tr.run_guard (by rw [zam3]; rfl), Tr.run_guard (by rw [hs]; rfl), hs, zam3]
          simp only [Option.getD_some]
          by_cases hm : a.P.V ∈ p.Links.Done.get a.C
          · rw [decide_eq_true hm, z3e, Tr.run_leaf]
            have := zant (p := { p with Stake := (zcw p.Stake a.P.V 0).1, Meter := (zagx p.Meter (z37 p a.P.V)).1 }) (a := a) ⟨hv, hc, hk, by show (zcw p.Stake a.P.V 0).1.Waits.length * 64 ≤ _; rw [zaeh]; exact hw, hd⟩ hm
            rw [this]
          · rw [decide_eq_false hm, z3f, Tr.run_guard (by rw [hcl]; rfl), hcl]
            simp only [Option.getD_some]
            rw [Tr.run_guard (by rw [hin]; rfl), Tr.run_leaf, hin, Option.getD_some, hmem (by simpa using hm)]
            rfl
        · rw [if_neg ht, Bool.eq_false_iff.2 ht, z3f, Tr.run_leaf]
end Go.Proofs.YtmakmlnfbdablaaGreat.Ab
namespace Go.Proofs.YtmakmlnfbdablaaGreat.Ab
open Go Go.RowKit
set_option linter.unusedVariables false
set_option linter.unusedSimpArgs false
def upP (p : za) (S : Stake) (D : A2 (List Int)) (M : Meter) : za := { p with Stake := S, Links := { p.Links with Done := D }, Meter := M }
def DealI (p0 p : za) : Prop := ∃ S D M, p = upP p0 S D M ∧ GoodS S ∧ zau (-1) D.x0 = true ∧ zau (-1) D.x1 = true
theorem DealI.get {p0 p : za} (h : DealI p0 p) {c : Int} : zau (-1) (p.Links.Done.get c) = true := by
  obtain ⟨S, D, M, rfl, _, h0, h1⟩ := h
  show zau (-1) (D.get c) = true
  unfold A2.get; split <;> assumption
theorem DealI.good {p0 p : za} (h : DealI p0 p) : GoodS p.Stake := by obtain ⟨S, D, M, rfl, h, _⟩ := h; exact h
theorem zanv {p0 : za} {S : Stake} {D : A2 (List Int)} {M : Meter} {c v : Int} (h0 : zau (-1) D.x0 = true) (h1 : zau (-1) D.x1 = true) : ∃ D', zanr (upP p0 S D M) c v = upP p0 S D' M ∧ zau (-1) D'.x0 = true ∧ zau (-1) D'.x1 = true := by
  refine ⟨D.set c (insD (D.get c) v), rfl, ?_, ?_⟩
  · show zau (-1) (if c = 0 then insD (D.get c) v else D.x0) = true
    split
    · exact zanq _ _
    · exact h0
  · show zau (-1) (if c = 1 then insD (D.get c) v else D.x1) = true
    split
    · exact zanq _ _
    · exact h1
theorem zyr {s : Stake} (hg : GoodS s) (v h f : Int) : GoodS (zi8 s v h f).1 := (zaj7 hg v h f).1
theorem zwc {s : Stake} (hg : GoodS s) (v : Int) {what : Int} (hw : what = 0 ∨ what = 1 ∨ what = 2) : GoodS (zcw s v what).1 := (zaj6 hg v hw).1
theorem zair {p0 p : za} (h : DealI p0 p) (a : Asked) : DealI p0 (zacm p a).1 := by
  obtain ⟨S, D, M, rfl, hS, h0, h1⟩ := h
  unfold zacm
  split
  · exact ⟨zte S a.C a.P.Id, D, M, rfl, z49 hS, h0, h1⟩
  · split
    · split
      · exact ⟨S, D, M, rfl, hS, h0, h1⟩
      · exact ⟨_, D, M, rfl, zwc (zyr hS _ _ _) _ (.inr (.inr rfl)), h0, h1⟩
    · split
      · obtain ⟨D', e, k0, k1⟩ := zanv (p0 := p0) (S := S) (M := M) (c := a.C) (v := a.P.V) h0 h1
        exact ⟨S, D', M, e, hS, k0, k1⟩
      · split
        · obtain ⟨D', e, k0, k1⟩ := zanv (p0 := p0) (S := (zcw S a.P.V 0).1) (M := (zagx M (z37 (upP p0 S D M) a.P.V)).1) (c := a.C) (v := a.P.V) h0 h1
          exact ⟨_, D', _, e, zwc hS _ (.inl rfl), k0, k1⟩
        · exact ⟨S, D, M, rfl, hS, h0, h1⟩
def zacn (t : za × A2 Bool × List Asked) (a : Asked) : za × A2 Bool × List Asked :=
  if t.2.1.get a.C = true then (t.1, t.2.1.set a.C true, t.2.2 ++ [a])
  else if (zacm t.1 a).2 = true then ((zacm t.1 a).1, t.2.1, t.2.2)
  else ((zacm t.1 a).1, t.2.1.set a.C true, t.2.2 ++ [a])
def zag1 (p0 : za) (i : Nat) (t : za × A2 Bool × List Asked) : Prop :=
  DealI p0 t.1 ∧ t.2.2.length ≤ i ∧ (∀ c : Int, 0 ≤ c ∧ c < 2 → t.2.1.get c = t.2.2.any (fun b => b.C == c)) ∧ ∀ b, b ∈ t.2.2 → b ∈ p0.Queue
theorem zam {α : Type} (a : A2 α) {i j : Int} (y : α) (hi : 0 ≤ i ∧ i < 2) (hj : 0 ≤ j ∧ j < 2) : (a.set i y).get j = if j = i then y else a.get j := by
  rcases (show i = 0 ∨ i = 1 by omega) with rfl | rfl <;> rcases (show j = 0 ∨ j = 1 by omega) with rfl | rfl <;> rfl
theorem zais {p0 : za} {i : Nat} {t : za × A2 Bool × List Asked} (h : zag1 p0 i t) {a : Asked} (hc : 0 ≤ a.C ∧ a.C < 2) (ha : a ∈ p0.Queue) : zag1 p0 (i + 1) (zacn t a) := by
  obtain ⟨h1, h2, h3, h4⟩ := h
  have more : ∀ p, DealI p0 p → zag1 p0 (i + 1) (p, t.2.1.set a.C true, t.2.2 ++ [a]) := by
    intro p hp
    refine ⟨hp, by simp; omega, fun c hcc => ?_, fun b hb => ?_⟩
    · show (t.2.1.set a.C true).get c = (t.2.2 ++ [a]).any (fun b => b.C == c)
      rw [zam _ _ hc hcc, List.any_append]
      by_cases e : c = a.C
      · rw [if_pos e]; simp [e]
      · rw [if_neg e, h3 c hcc]; simp [Ne.symm e]
    · rcases List.mem_append.1 hb with hb | hb
      · exact h4 b hb
      · rw [List.mem_singleton.1 hb]; exact ha
  unfold zacn
  split
  · exact more _ h1
  · split
    · exact ⟨zair h1 a, by simp only []; omega, h3, h4⟩
    · exact more _ (zair h1 a)
theorem zav6 {p0 p : za} (hp : DealI p0 p) {q : za} {a : Asked} (ha : zzs q a = true) : zans p a := by
  unfold zzs at ha
  simp only [Bool.and_eq_true, decide_eq_true_eq, beq_iff_eq, Bool.not_eq_true', beq_eq_false_iff_ne] at ha
  obtain ⟨⟨⟨⟨c0, c1⟩, _⟩, hg⟩, hk⟩ := ha
  have hf := zqs hg
  exact ⟨⟨hf.2.2.2.2.1, hf.2.2.2.2.2.1⟩, ⟨c0, c1⟩, by omega, hp.good.fit, hp.get⟩
theorem zaq5 {p0 : za} {q : za} {now : Int} {d : za} {l : List Asked} {p : za} (hp : DealI p0 p) (hl : l.length * 88 ≤ 140737488351232) (ha : ∀ a, a ∈ l → zzs q a = true ∧ a ∈ p0.Queue) :
    zhn now l l.length 0 p d ⟨false, false⟩ [] = some (now, (l.foldl zacn (p, ⟨false, false⟩, [])).1, d, (l.foldl zacn (p, ⟨false, false⟩, [])).2.2) := by
  rw [zhn]
  have := zmm (F := fun s : Int × (List Asked) × Int × Int × za × za × (A2 Bool) × (List Asked) => (zf2 s.1 s.2.1 s.2.2.1 s.2.2.2.1 s.2.2.2.2.1 s.2.2.2.2.2.1 s.2.2.2.2.2.2.1 s.2.2.2.2.2.2.2).run) l default
    (fun i (t : za × A2 Bool × List Asked) => (now, l, (l.length : Int), (i : Int), t.1, d, t.2.1, t.2.2)) (zag1 p0) zacn (fun t => (now, t.1, d, t.2.2)) (by
      intro t _
      simp only [zf2]
      rw [Tr.run_false (by simp), Tr.run_leaf]) (by
      intro i t hi hI
      obtain ⟨a1, a2⟩ := ha _ (zgu (l := l) (k := i) hi default)
      have hfit := zav6 hI.1 a1
      refine ⟨?_, zais hI hfit.c a2⟩
      have hlen := hI.2.1
      simp only [zf2, Int.toNat_natCast]
      rw [Tr.run_true (by simpa using hi), Tr.run_guard ⟨by omega, by show (i : Int) < (l.length : Nat); omega⟩, Tr.run_guard hfit.c]
      unfold zacn
      by_cases hw : t.2.1.get (l.getD i default).C = true
      · rw [if_pos hw, Tr.run_true hw, Tr.run_true (show true = true from rfl), Tr.run_true (show true = true from rfl), Tr.run_true (show true = true from rfl)]
        rw [Tr.run_guard hfit.c, Tr.run_guard (by show (t.2.2.length + 1) * 88 ≤ _; omega), Tr.run_leaf, z6 (by omega)]
      · rw [if_neg hw, Tr.run_false (Bool.eq_false_iff.2 hw), Tr.run_bind (zav5 hfit)]
        simp only []
        by_cases hd : (zacm t.1 (l.getD i default)).2 = true
        · rw [if_pos hd, Tr.run_false (by rw [hd]; rfl), Tr.run_leaf, z6 (by omega)]
        · rw [if_neg hd, Tr.run_true (by rw [Bool.eq_false_iff.2 hd]; rfl), Tr.run_guard hfit.c, Tr.run_guard (by show (t.2.2.length + 1) * 88 ≤ _; omega), Tr.run_leaf, z6 (by omega)]) (p, ⟨false, false⟩, []) ⟨hp, by simp, fun c hc => by rcases (show c = 0 ∨ c = 1 by omega) with rfl | rfl <;> rfl, fun b hb => by cases hb⟩
  exact this
end Go.Proofs.YtmakmlnfbdablaaGreat.Ab
namespace Go.Proofs.YtmakmlnfbdablaaGreat.Ab
open Go Go.RowKit
set_option linter.unusedVariables false
set_option linter.unusedSimpArgs false
def dOf (p : za) (c : Int) : List Power := z0m (fP (p.Links.Told.get c)) (fP p.Set)
def pkOf (p : za) (c : Int) : Packet := ⟨1, p.Height, 0, 0, dOf p c, p.Links.Done.get c⟩
def zsa (p : za) (c now : Int) : zbk × Int := sayL (zj3 p.Links c) (zga (pkOf p c)).1 (now + 40)
def zaq6 (p : za) (c now : Int) : za :=
  { p with Links := { p.Links with Told := p.Links.Told.set c p.Set, Fresh := p.Links.Fresh.set c false, Done := p.Links.Done.set c [], Said := p.Links.Said.set c (zsa p c now).1.Said, Due := p.Links.Due.set c (zsa p c now).1.Due, Got := p.Links.Got.set c (zsa p c now).1.Got, Closed := p.Links.Closed.set c (zsa p c now).1.Closed } }
def z5b (p : za) (c : Int) : Prop := p.Links.On.get c = false ∨ (dOf p c = [] ∧ p.Links.Done.get c = [] ∧ p.Links.Fresh.get c = false)
instance (p : za) (c : Int) : Decidable (z5b p c) := by
  have : Decidable (dOf p c = []) := decidable_of_iff ((dOf p c).length = 0) List.length_eq_zero_iff
  have : Decidable (p.Links.Done.get c = []) := decidable_of_iff ((p.Links.Done.get c).length = 0) List.length_eq_zero_iff
  exact inferInstanceAs (Decidable (_ ∨ _))
def ze9 (p : za) (c now : Int) : za :=
  if z5b p c then p else if (zga (pkOf p c)).2 ≠ 0 then p else if (zsa p c now).2 ≠ 0 then p else zaq6 p c now
structure zaco (p : za) (c : Int) : Prop where
  t : (p.Links.Told.get c).length ≤ 9223372036854775807
  s : p.Set.length ≤ 6
  d : (p.Links.Done.get c).length ≤ 6
  u : (p.Links.Due.get c).length ≤ 9223372036854775807
theorem quiet_iff {p : za} {c : Int} : z5b p c ↔ p.Links.On.get c = false ∨ ((dOf p c).length = 0 ∧ (p.Links.Done.get c).length = 0 ∧ p.Links.Fresh.get c = false) := by
  unfold z5b; rw [List.length_eq_zero_iff, List.length_eq_zero_iff]
theorem z1g {l : List Power} (h : l.length ≤ 6) : zar l = some l := by
  rw [zar, zcr]
  refine Tr.run_split (fun h0 => ?_) (fun _ => ?_) (.inr trivial)
  · rw [Tr.run_leaf, List.length_eq_zero_iff.1 h0]
  · rw [Tr.run_guard (by simp only [zbe, List.length_nil]; omega), Tr.run_leaf]
theorem zanw {p : za} {c now : Int} (hf : zaco p c) (hc : 0 ≤ c ∧ c < 2) (hn : 0 ≤ now ∧ now ≤ 1099511627776) : zkd c now p = some (ze9 p c now) := by
  obtain ⟨ft, fs, fd, fu⟩ := hf
  have hdl : (dOf p c).length ≤ 6 := zajt _ _
  have hD : ze1 (p.Links.Told.get c) p.Set = some (dOf p c) := zaqq ft (by omega)
  have hE : z5 (⟨1, p.Height, 0, 0, dOf p c, p.Links.Done.get c⟩ : Packet) = some (zga (pkOf p c)) := z3a (by show (dOf p c).length * 16 ≤ _; omega) (by show (p.Links.Done.get c).length * 8 ≤ _; omega)
  rw [zkd, zl5, Tr.run_guard hc, Tr.run_guard (by rw [hD]; rfl), hD]
  simp only [Option.getD_some]
  unfold ze9
  by_cases hq : z5b p c
  · rw [if_pos hq, Tr.run_true (by
      rw [quiet_iff] at hq
      simp only [Bool.or_eq_true, Bool.and_eq_true, Bool.not_eq_true', beq_iff_eq]
      rcases hq with h | ⟨h1, h2, h3⟩
      · exact .inl h
      · exact .inr ⟨⟨by omega, h3⟩, by omega⟩), Tr.run_leaf]
  · rw [if_neg hq, Tr.run_false (by
      rw [Bool.eq_false_iff]
      intro h
      simp only [Bool.or_eq_true, Bool.and_eq_true, Bool.not_eq_true', beq_iff_eq] at h
      refine hq (quiet_iff.2 ?_)
      rcases h with h | ⟨⟨h1, h2⟩, h3⟩
      · exact .inl h
      · exact .inr ⟨by omega, by omega, h2⟩), Tr.run_guard (by rw [hE]; rfl), hE]
    simp only [Option.getD_some]
    by_cases he : (zga (pkOf p c)).2 ≠ 0
    · rw [if_pos he, Tr.run_true (by simpa using he), Tr.run_leaf]
    · rw [if_neg he, Tr.run_false (by simpa using he), zp (x := now + 40) (by omega) (by omega), Tr.run_bind (zash _ _ _)]
      by_cases hs : (zsa p c now).2 ≠ 0
      · rw [if_pos hs, Tr.run_true (by simpa [zsa] using hs), Tr.run_leaf]
      · rw [if_neg hs, Tr.run_false (by simpa [zsa] using hs), Tr.run_guard (by rw [z1g fs]; rfl), Tr.run_leaf, z1g fs]
        rfl
def z0o (p : za) (now : Int) : za := { p with Height := p.Height + 1, Time := now, Meter := zakc p.Meter (allP p.Set) now }
def zhq (p : za) (now : Int) : za × A2 Bool × List Asked := p.Queue.foldl zacn (z0o p now, ⟨false, false⟩, [])
def zqo (p : za) (now : Int) : za :=
  { (zhq p now).1 with Stake := (payS (zhq p now).1.Stake now).1, Set := setS (payS (zhq p now).1.Stake now).1, Queue := (zhq p now).2.2 }
def zo3 (p : za) (now : Int) : za × List Int × Int :=
  if zav p = true ∧ p.Time ≤ now ∧ now ≤ 1099511627776 then (ze9 (ze9 (zqo p now) 0 now) 1 now, (payS (zhq p now).1.Stake now).2.1, 0) else (p, [], 2)
theorem zait (l : List Power) : i64 (allP l) := by
  have : ∀ (l : List Power) (t : Int), i64 t → i64 (l.foldl (fun t p => IntKind.i64.wrap (t + p.N)) t) := by
    intro l
    induction l with
    | nil => intro t ht; exact ht
    | cons q l ih => intro t _; exact ih _ (by show i64 (IntKind.i64.wrap (t + q.N)); rw [IntKind.wrap_i64]; unfold i64; omega)
  exact this l 0 (by unfold i64; omega)
theorem zaet {p : za} {now : Int} (hg : zav p = true) : DealI (z0o p now) (z0o p now) := by
  obtain ⟨g1, _, _, k0, k1, _⟩ := zky hg
  unfold okLk at k0 k1
  simp only [Bool.and_eq_true] at k0 k1
  exact ⟨p.Stake, p.Links.Done, zakc p.Meter (allP p.Set) now, rfl, g1, k0.2, k1.2⟩
theorem zaiu {p0 : za} : ∀ (l : List Asked) (i : Nat) (t : za × A2 Bool × List Asked), zag1 p0 i t → (∀ a, a ∈ l → (0 ≤ a.C ∧ a.C < 2) ∧ a ∈ p0.Queue) → zag1 p0 (i + l.length) (l.foldl zacn t)
  | [], i, t, h, _ => h
  | a :: l, i, t, h, ha => by
    have := zaiu l (i + 1) (zacn t a) (zais h (ha a (List.mem_cons_self ..)).1 (ha a (List.mem_cons_self ..)).2) (fun b hb => ha b (List.mem_cons_of_mem _ hb))
    rw [List.foldl_cons, List.length_cons, show i + (l.length + 1) = i + 1 + l.length by omega]
    exact this
theorem zanx {p : za} (hg : zav p = true) : ∀ a, a ∈ p.Queue → zzs p a = true ∧ (0 ≤ a.C ∧ a.C < 2) := by
  intro a ha
  have h := List.all_eq_true.1 (zky hg).2.2.2.2.2 a ha
  refine ⟨h, ?_⟩
  unfold zzs at h
  simp only [Bool.and_eq_true, decide_eq_true_eq] at h
  exact h.1.1.1
theorem z79 {p : za} {now : Int} (hg : zav p = true) : zag1 (z0o p now) p.Queue.length (zhq p now) := by
  have := zaiu (p0 := z0o p now) p.Queue 0 (z0o p now, ⟨false, false⟩, []) ⟨zaet hg, by simp, fun c hc => by rcases (show c = 0 ∨ c = 1 by omega) with rfl | rfl <;> rfl, fun b hb => by cases hb⟩ (fun a ha => ⟨(zanx hg a ha).2, ha⟩)
  rwa [Nat.zero_add] at this
theorem zaiv {p : za} (hf : FitPr 140737488351232 p) {now : Int} (hg : zav p = true) (c : Int) : zaco (zqo p now) c := by
  have hq := z79 (now := now) hg
  obtain ⟨S, D, M, e, hS, d0, d1⟩ := hq.1
  have ht := hf.told c
  have hu := hf.due c
  refine ⟨?_, z7m _, ?_, ?_⟩
  · show ((zhq p now).1.Links.Told.get c).length ≤ _
    rw [e]; show (p.Links.Told.get c).length ≤ _; omega
  · show ((zhq p now).1.Links.Done.get c).length ≤ 6
    exact z50 hq.1.get
  · show ((zhq p now).1.Links.Due.get c).length ≤ _
    rw [e]; show (p.Links.Due.get c).length ≤ _; omega
theorem zaq7 {p : za} {now : Int} (h : zaco p 1) : zaco (ze9 p 0 now) 1 := by
  unfold ze9
  split
  · exact h
  · split
    · exact h
    · split
      · exact h
      · exact ⟨h.t, h.s, h.d, h.u⟩
theorem zaiw {p : za} {now : Int} : (((!zav p) || (decide (now < p.Time))) || (decide (now > 1099511627776))) = !decide (zav p = true ∧ p.Time ≤ now ∧ now ≤ 1099511627776) := by
  rw [Bool.eq_iff_iff]
  simp only [Bool.or_eq_true, Bool.not_eq_true', decide_eq_true_eq, decide_eq_false_iff_not]
  cases zav p <;> simp <;> omega
theorem zakf {p : za} (hf : FitPr 140737488351232 p) {now : Int} : zdl p now = some (zo3 p now) := by
  have hset := hf.set
  rw [zdl, zn4, Tr.run_bind (zkx hf)]
  unfold zo3
  by_cases hg : zav p = true ∧ p.Time ≤ now ∧ now ≤ 1099511627776
  · obtain ⟨hg1, hg2⟩ := hg
    have hnum := (zky hg1).2.1
    unfold z5a at hnum
    rw [if_pos ⟨hg1, hg2⟩, Tr.run_false (by rw [zaiw, decide_eq_true ⟨hg1, hg2⟩]; rfl), Tr.run_guard (by rw [zask (by omega)]; rfl), zask (by omega)]
    simp only [Option.getD_some]
    rw [Tr.run_guard (by rw [zaio (zait _)]; rfl), zaio (zait _), zp (x := p.Height + 1) (by omega) (by omega)]
    simp only [Option.getD_some]
    have hloop := zaq5 (p0 := z0o p now) (q := p) (now := now) (d := default) (l := p.Queue) (p := z0o p now) (zaet hg1) hf.queue (fun a ha => ⟨(zanx hg1 a ha).1, ha⟩)
    have hinv := z79 (now := now) hg1
    have hgs : GoodS (zhq p now).1.Stake := hinv.1.good
    have hpay := zaii hgs now
    have hz : (payS (zhq p now).1.Stake now).2.2 = 0 := by rw [zane hgs]
    rw [Tr.run_bind (show zhn now p.Queue ((p.Queue.length : Nat) : Int) 0 (⟨p.Height + 1, now, p.Stake, p.Set, p.Links, zakc p.Meter (allP p.Set) now, p.Queue⟩ : za) default ⟨false, false⟩ [] = some (now, (zhq p now).1, default, (zhq p now).2.2) from hloop)]
    simp only []
    rw [Tr.run_bind (show zsx (zhq p now).1.Stake now = _ from za2c), Tr.run_false (by rw [hz]; rfl), Tr.run_bind (za2f hpay)]
    have h0 := zanw (now := now) (zaiv hf (now := now) hg1 0) (by omega) (by omega)
    have h1 := zanw (now := now) (zaq7 (now := now) (zaiv hf (now := now) hg1 1)) (by omega) (by omega)
    rw [Tr.run_bind (v := ((payS (zhq p now).1.Stake now).2.1, ze9 (ze9 (zqo p now) 0 now) 1 now, default)) (by
      show zl8 now (payS (zhq p now).1.Stake now).2.1 0 (zqo p now) default = _
      rw [zl8, zcv (s' := (now, (payS (zhq p now).1.Stake now).2.1, ((1 : Nat) : Int), ze9 (zqo p now) 0 now, default)) (by
          simp only [zf3]
          rw [Tr.run_true (by simp), Tr.run_bind h0, Tr.run_leaf]; rfl),
        zcv (s' := (now, (payS (zhq p now).1.Stake now).2.1, ((2 : Nat) : Int), ze9 (ze9 (zqo p now) 0 now) 1 now, default)) (by
          simp only [zf3]
          rw [Tr.run_true (by simp)]
          rw [Tr.run_bind (show zkd ((1 : Nat) : Int) now _ = _ from h1), Tr.run_leaf]; rfl),
        ze8 (by
          simp only [zf3]
          rw [Tr.run_false (by simp), Tr.run_leaf])]), Tr.run_leaf]
  · rw [if_neg hg, Tr.run_true (by rw [zaiw, decide_eq_false hg]; rfl), Tr.run_leaf]
end Go.Proofs.YtmakmlnfbdablaaGreat.Ab
namespace Go.Proofs.YtmakmlnfbdablaaGreat.Ab
open Go Go.RowKit
set_option linter.unusedVariables false
set_option linter.unusedSimpArgs false
theorem zaaj : zav zaep = true := by decide
theorem zaix {p : za} {c now : Int} (h : p.Links.On.get c = false) : ze9 p c now = p := by unfold ze9; rw [if_pos (.inl h)]
end Go.Proofs.YtmakmlnfbdablaaGreat.Ab
namespace Go.Proofs.YtmakmlnfbdablaaGreat.Ab
open Go Go.RowKit
set_option linter.unusedVariables false
set_option linter.unusedSimpArgs false
theorem zgi (l : List Asked) : Sl.len (.asked l) = l.length := rfl
theorem zakg {s : Stake} (hg : GoodS s) {v h : Int} (hv : 0 ≤ v ∧ v < 6) : (zi8 s v h 50).2.2 = 0 := by
  unfold zi8
  rw [if_neg (by rw [zaad hg (by omega) hv]; simp), if_neg (by omega)]
theorem zany {s : Stake} (hg : GoodS s) {v : Int} (hv : 0 ≤ v ∧ v < 6) (hd : s.Validators.Dead.get v = false) : (zcw s v 2).2 = 0 := by
  unfold zcw
  rw [if_neg (by rw [zaad hg (by omega) hv]; simp), if_neg (by omega), if_neg (by rw [hd]; simp), if_neg (by omega)]
theorem zakh (s : Stake) (v h f : Int) : (zi8 s v h f).1.Validators.Dead = s.Validators.Dead := by
  unfold zi8
  repeat' split
  all_goals rfl
def zys (p : za) (v h : Int) : za × Int :=
  if zav p = false then (p, 2) else if 0 ≤ v ∧ v < 6 then (if 1 ≤ h ∧ h ≤ p.Height then (if p.Stake.Validators.Dead.get v = true then (p, 15) else ({ p with Stake := (zcw (zi8 p.Stake v h 50).1 v 2).1 }, 0)) else (p, 2)) else (p, 4)
theorem z8a {p : za} (hf : FitPr 140737488351232 p) {v h : Int} : zjc p v h = some (zys p v h) := by
  rw [zjc, zgr, Tr.run_bind (zkx hf)]
  unfold zys
  cases hg : zav p with
  | false => rw [z3f, Tr.run_leaf, if_pos rfl]
  | true =>
    rw [z3e, if_neg (by simp)]
    by_cases hv : 0 ≤ v ∧ v < 6
    · rw [Tr.run_false (by simp; omega), if_pos hv]
      by_cases hh : 1 ≤ h ∧ h ≤ p.Height
      · rw [Tr.run_false (by simp; omega), if_pos hh, Tr.run_guard hv]
        cases hd : p.Stake.Validators.Dead.get v with
        | true => rw [Tr.run_true rfl, Tr.run_leaf, if_pos rfl]
        | false =>
          have hs := (zky hg).1
          rw [Tr.run_false rfl, if_neg (by simp), Tr.run_bind zach, Tr.run_false (by rw [zakg hs hv]; rfl), Tr.run_bind zagm, Tr.run_false (by rw [zany (zyr hs v h 50) hv (by rw [zakh]; exact hd)]; rfl), Tr.run_leaf]
      · rw [Tr.run_true (by simp; omega), Tr.run_leaf, if_neg hh]
    · rw [Tr.run_true (by simp; omega), Tr.run_leaf, if_neg hv]
def zpp (p : za) (c : Int) (s : List UInt8) : za × Int :=
  if zav p = false then (p, 2) else if (0 ≤ c ∧ c < 2) ∧ p.Links.On.get c = true then (if (zbf s).2 ≠ 0 then (p, (zbf s).2) else if (zbf s).1.Kind = 1 then (p, 3) else ({ p with Queue := p.Queue ++ [⟨c, (zbf s).1⟩] }, 0)) else (p, 4)
theorem zaak {l : List Asked} (h : l.length * 88 ≤ 140737488351232) : zax l = some l := by
  rw [zax, zdr]
  refine Tr.run_split (fun h0 => ?_) (fun _ => ?_) (.inr trivial)
  · rw [Tr.run_leaf, List.length_eq_zero_iff.1 h0]
  · rw [Tr.run_guard (by simp only [zgi, List.length_nil]; omega), Tr.run_leaf]
theorem zag2 {p : za} (hf : FitPr 140737488351232 p) {c : Int} {a : ByteArray} (ha : a.size ≤ 140737488355328) : zbl p c a = some (zpp p c a.data.toList) := by
  have e1 : zfu a = some (zbf a.data.toList) := zad8 (s := a.data.toList) (by have : a.data.toList.length = a.size := rfl; omega)
  have hq := hf.queue
  rw [zbl, zl4, Tr.run_bind e1, Tr.run_bind (zkx hf)]
  simp only [zaak hf.queue, Option.isSome_some, Option.getD_some]
  unfold zpp
  cases hg : zav p with
  | false => rw [z3f, Tr.run_leaf, if_pos rfl]
  | true =>
    rw [z3e, if_neg (by simp), Tr.run_guard (by
      intro h0
      simp only [Bool.or_eq_false_iff, decide_eq_false_iff_not] at h0
      exact ⟨by omega, trivial⟩)]
    by_cases hc : (0 ≤ c ∧ c < 2) ∧ p.Links.On.get c = true
    · rw [if_pos hc, Tr.run_false (by rw [hc.2]; simp; omega)]
      by_cases hd : (zbf a.data.toList).2 = 0
      · rw [Tr.run_false (by simpa using hd), if_neg (by simpa using hd)]
        by_cases hk : (zbf a.data.toList).1.Kind = 1
        · rw [Tr.run_true (by simpa using hk), if_pos hk, Tr.run_leaf]
        · rw [Tr.run_false (by simpa using hk), if_neg hk, Tr.run_guard (by trivial), Tr.run_guard (by simp only [zgi, List.length_singleton]; omega), Tr.run_leaf]
      · rw [Tr.run_true (by simpa using hd), if_pos hd, Tr.run_leaf]
    · rw [if_neg hc, Tr.run_true (by
        simp only [Bool.or_eq_true, decide_eq_true_eq, Bool.not_eq_true']
        by_cases h1 : 0 ≤ c ∧ c < 2
        · exact .inr (Bool.eq_false_iff.2 (fun h2 => hc ⟨h1, h2⟩))
        · exact .inl (by omega)), Tr.run_leaf]
theorem z8b {p : Packet} (h : zfj p = 0) : p.Set.length ≤ 6 ∧ p.Done.length ≤ 6 := by
  obtain ⟨_, _, _, _, _, _, _, _, g9, g10, _⟩ := zqs h
  have l1 := znd g9 (by omega)
  exact ⟨by omega, z50 g10⟩
theorem zaiy {s : List UInt8} (h : (zbf s).2 = 0) : zfj (zbf s).1 = 0 := by
  unfold zbf at h ⊢
  split
  · rename_i k; rw [if_pos k] at h; cases h
  · rename_i k
    rw [if_neg k] at h
    split
    · rename_i k2; rw [if_pos k2] at h; exact absurd h k2
    · rename_i k2; exact Classical.not_not.1 k2
end Go.Proofs.YtmakmlnfbdablaaGreat.Ab
namespace Go.Proofs.YtmakmlnfbdablaaGreat.Ab
open Go Go.RowKit
set_option linter.unusedVariables false
set_option linter.unusedSimpArgs false
def zif (L : Links) (c H : Int) (T : List Power) (f : Bool) : Links :=
  ⟨L.On.set c true, L.Gone.set c false, L.Base.set c H, L.Told.set c T, L.Fresh.set c f, L.Done.set c [], L.Said.set c [], L.Due.set c [], L.Got.set c 0, L.Closed.set c false, L.SHeight.set c 0, L.STime.set c 0, L.SSaid.set c 0, L.SGot.set c 0⟩
def zpq (p : za) (c : Int) (W : List Wait) (f : Bool) : za := { p with Stake := { p.Stake with Waits := W }, Links := zif p.Links c p.Height p.Set f }
def zj4 (c H : Int) (w : Wait) : Wait := if H < w.Height then { w with h0 := if c = 0 then w.Height else w.h0, h1 := if c = 1 then w.Height else w.h1 } else w
def z0p (p : za) : Bool := p.Stake.Waits.any (fun w => decide (p.Height < w.Height))
def zev (p : za) (c : Int) : za × Int :=
  if zav p = false then (p, 2) else if 0 ≤ c ∧ c < 2 then (if p.Links.Gone.get c = true then (p, 11) else if p.Links.On.get c = true then (p, 5) else if p.Height < 1 ∨ p.Set.length = 0 then (p, 13)
    else (zpq p c (p.Stake.Waits.map (zj4 c p.Height)) (z0p p), 0)) else (p, 4)
theorem zaiz {α : Type} (q : α → Bool) : ∀ (l : List α) (b : Bool), l.foldl (fun t w => t || q w) b = (b || l.any q)
  | [], b => by simp
  | a :: l, b => by rw [List.foldl_cons, zaiz q l, List.any_cons, Bool.or_assoc]
theorem zaki {α : Type} (a : A2 α) (c : Int) (x y : α) : (a.set c x).set c y = a.set c y := by
  unfold A2.set
  by_cases h : c = 0
  · subst h; rfl
  · by_cases h1 : c = 1
    · subst h1; rfl
    · simp [h, h1]
theorem za2l {l W : List Wait} {i : Nat} {w : Wait} (hi : i < W.length) (hg : W.getD i default = w) : W.set i w = W := by rw [← hg, zace hi]
theorem zakj {p z : za} {c : Int} (hc : 0 ≤ c ∧ c < 2) (hw : p.Stake.Waits.length * 64 ≤ 140737488351232) :
    zjb c p.Stake.Waits.length 0 (zpq p c p.Stake.Waits false) z = some (zpq p c (p.Stake.Waits.map (zj4 c p.Height)) (z0p p), z) := by
  rw [zjb]
  have := zacf (F := fun s : Int × Int × Int × za × za => (zee s.1 s.2.1 s.2.2.1 s.2.2.2.1 s.2.2.2.2).run) p.Stake.Waits default
    (fun i W (f : Bool) => (c, (p.Stake.Waits.length : Int), (i : Int), zpq p c W f, z)) (fun _ _ => True) (zj4 c p.Height) (fun t w => t || decide (p.Height < w.Height)) (fun W f => (zpq p c W f, z)) ?_ ?_ false trivial
  · rw [zaiz] at this
    exact this
  · intro W t hW _
    simp only [zee]; rw [Tr.run_false (by simp), Tr.run_leaf]
  · intro i W t hi hW hg _
    refine ⟨?_, trivial⟩
    simp only [zee]
    rw [Int.toNat_natCast, show (zpq p c W t).Stake.Waits = W from rfl, hg, show (zpq p c W t).Height = p.Height from rfl]
    generalize hw' : p.Stake.Waits.getD i default = w at hg ⊢
    rw [Tr.run_true (by simpa using hi), Tr.run_guard ⟨by omega, by rw [zbs]; omega⟩]
    by_cases hp : p.Height < w.Height
    · rw [Tr.run_true (by simpa using hp), Tr.run_guard hc, Tr.run_guard hc, Tr.run_leaf, z6 (by omega)]
      have e : zj4 c p.Height w = { w with h0 := if c = 0 then w.Height else w.h0, h1 := if c = 1 then w.Height else w.h1 } := if_pos hp
      rw [e, decide_eq_true hp, Bool.or_true]
      rw [show (zpq p c W t).Links.Fresh = p.Links.Fresh.set c t from rfl, zaki]
      rfl
    · rw [Tr.run_false (by simpa using hp), Tr.run_leaf, z6 (by omega)]
      have e : zj4 c p.Height w = w := if_neg hp
      rw [e, decide_eq_false hp, Bool.or_false, za2l (l := W) (by omega) hg]
theorem zaeu {p : za} (hf : FitPr 140737488351232 p) {c : Int} : zas p c = some (zev p c) := by
  rw [zas, zkc, Tr.run_bind (zkx hf)]
  unfold zev
  cases hg : zav p with
  | false => rw [z3f, Tr.run_leaf, if_pos rfl]
  | true =>
    rw [z3e, if_neg (by simp)]
    by_cases hc : 0 ≤ c ∧ c < 2
    · rw [Tr.run_false (by simp; omega), if_pos hc, Tr.run_guard hc]
      cases h1 : p.Links.Gone.get c with
      | true => rw [Tr.run_true rfl, Tr.run_leaf, if_pos rfl]
      | false =>
        rw [Tr.run_false rfl, if_neg (by simp), Tr.run_guard hc]
        cases h2 : p.Links.On.get c with
        | true => rw [Tr.run_true rfl, Tr.run_leaf, if_pos rfl]
        | false =>
          rw [Tr.run_false rfl, if_neg (by simp)]
          have hs := znd (zky hg).2.2.1 (by omega)
          by_cases h3 : p.Height < 1 ∨ p.Set.length = 0
          · rw [if_pos h3, Tr.run_true (by simp only [Bool.or_eq_true, decide_eq_true_eq, beq_iff_eq]; omega), Tr.run_leaf]
          · have hcl := z1g (l := p.Set) (by omega)
            rw [if_neg h3, Tr.run_false (by simp only [Bool.or_eq_false_iff, decide_eq_false_iff_not, beq_eq_false_iff_ne]; omega), Tr.run_guard (by rw [hcl]; rfl), Tr.run_guard hc, Tr.run_bind (z3c hf.waits), hcl, Tr.run_bind (v := (zpq p c (p.Stake.Waits.map (zj4 c p.Height)) (z0p p), default)) (by exact zakj hc hf.waits), Tr.run_leaf]
    · rw [Tr.run_true (by simp; omega), Tr.run_leaf, if_neg hc]
def zwd (L : Links) (c : Int) : Links := { L with On := L.On.set c false, Gone := L.Gone.set c true, Fresh := L.Fresh.set c false, Done := L.Done.set c [], Closed := L.Closed.set c true }
def z51 (c : Int) (a : Asked) : Bool := a.C != c
def zwe (p : za) (c : Int) : za := { p with Stake := zte p.Stake c 1099511627776, Links := zwd p.Links c, Queue := p.Queue.filter (z51 c) }
def zwf (p : za) (c : Int) : za := if zav p = true ∧ (0 ≤ c ∧ c < 2) ∧ p.Links.On.get c = true then zwe p c else p
theorem zasn (a : Asked) (c : Int) : zfl a c = some (!z51 c a, c) := by
  rw [zfl, zgq, Tr.run_leaf]
  unfold z51
  simp [bne]
theorem zng {α : Type} {l : List α} {i : Nat} (h : i < l.length) (d : α) : l.take (i + 1) = l.take i ++ [l.getD i d] := by
  rw [List.take_succ_eq_append_getElem h, zur h]
theorem zakk {l : List Asked} {c : Int} (hl : l.length * 88 ≤ 140737488351232) :
    ∃ r, zb6 l.length 0 c l = some r ∧
      (match r with | .inl y => ∃ k : Nat, y = ((k : Int), c, l) ∧ k < l.length ∧ (l.take k).all (z51 c) = true ∧ z51 c (l.getD k default) = false | .inr y => y = (c, l) ∧ l.all (z51 c) = true) := by
  rw [zb6]
  have := zie (F := fun s : Int × Int × Int × (List Asked) => (zaj s.1 s.2.1 s.2.2.1 s.2.2.2).run) l.length (fun i (_ : Unit) => ((l.length : Int), (i : Int), c, l)) (fun i _ => (l.take i).all (z51 c) = true)
    (fun i _ r => match r with | .inl y => ∃ k : Nat, y = ((k : Int), c, l) ∧ k < l.length ∧ (l.take k).all (z51 c) = true ∧ z51 c (l.getD k default) = false | .inr y => y = (c, l) ∧ l.all (z51 c) = true) ?_ ?_ 0 () (Nat.zero_le _) rfl
  · exact this
  · intro t h
    refine ⟨.inr (c, l), ?_, rfl, by rwa [List.take_length] at h⟩
    simp only [zaj]; rw [Tr.run_false (by simp), Tr.run_leaf]
  · intro i t hi h
    simp only [zaj]
    rw [Int.toNat_natCast, Tr.run_true (by simpa using hi), Tr.run_guard ⟨by omega, by rw [zgi]; omega⟩, Tr.run_bind (zasn _ _)]
    cases hn : z51 c (l.getD i default) with
    | true => exact .inl ⟨(), by rw [Tr.run_false (by rfl), Tr.run_leaf, z6 (by omega)], by rw [zng hi default, List.all_append, h, List.all_cons, hn]; rfl, fun r hr => hr⟩
    | false => exact .inr ⟨.inl ((i : Int), c, l), by rw [Tr.run_true (by rfl), Tr.run_leaf], i, rfl, hi, h, hn⟩
theorem zag3 {l : List Asked} {c : Int} (hl : l.length * 88 ≤ 140737488351232) {k : Nat} (hk : k < l.length) (ha : (l.take k).all (z51 c) = true) (hn : z51 c (l.getD k default) = false) :
    ∃ r, zcb k ((k + 1 : Nat) : Int) c l = some r ∧ ∃ n : Nat, r.1 = n ∧ r.2.1 = c ∧ n ≤ l.length ∧ r.2.2.length = l.length ∧ r.2.2.take n = l.filter (z51 c) := by
  rw [zcb]
  have := zie (F := fun s : Int × Int × Int × (List Asked) => (zap s.1 s.2.1 s.2.2.1 s.2.2.2).run) l.length (fun i (t : Nat × List Asked) => ((t.1 : Int), (i : Int), c, t.2)) (fun i t => t.1 < i ∧ t.2.length = l.length ∧ t.2.take t.1 = (l.take i).filter (z51 c) ∧ t.2.drop i = l.drop i)
    (fun i _ r => ∃ n : Nat, r.1 = n ∧ r.2.1 = c ∧ n ≤ l.length ∧ r.2.2.length = l.length ∧ r.2.2.take n = l.filter (z51 c)) ?_ ?_ (k + 1) (k, l) (by omega) ⟨by omega, rfl, ?_, rfl⟩
  · exact this
  · rintro ⟨n, W⟩ ⟨h1, h2, h3, h4⟩
    simp only at h1 h2 h3 h4
    refine ⟨((n : Int), c, W), ?_, n, rfl, rfl, by omega, h2, by rw [h3, List.take_length]⟩
    simp only [zap]; rw [Tr.run_false (by simp; omega), Tr.run_leaf]
  · rintro i ⟨n, W⟩ hi ⟨h1, h2, h3, h4⟩
    simp only at h1 h2 h3 h4
    have hg : W.getD i default = l.getD i default := by
      have e1 := zbp (l := W) (k := i) (by omega) default
      have e2 := zbp (l := l) (k := i) hi default
      rw [h4, e2] at e1
      exact (List.cons.inj e1).1.symm
    have hd : W.drop (i + 1) = l.drop (i + 1) := by
      have e1 := zbp (l := W) (k := i) (by omega) default
      have e2 := zbp (l := l) (k := i) hi default
      rw [h4, e2] at e1
      exact (List.cons.inj e1).2.symm
    simp only [zap]
    rw [Int.toNat_natCast, Int.toNat_natCast, hg, Tr.run_true (by simp; omega), Tr.run_guard ⟨by omega, by rw [zgi]; omega⟩, Tr.run_bind (zasn _ _)]
    cases hq : z51 c (l.getD i default) with
    | true =>
      refine .inl ⟨(n + 1, W.set n (l.getD i default)), by rw [Tr.run_true (by rfl), Tr.run_guard ⟨by omega, by rw [zgi]; omega⟩, Tr.run_leaf, z6 (by omega), z6 (by omega)], ⟨by simp only []; omega, by simp only [List.length_set]; exact h2, ?_, ?_⟩, fun r hr => hr⟩
      · simp only []
        rw [zng (by rw [List.length_set]; omega) default, List.take_set_of_le (by omega), h3, zng hi default, List.filter_append, zur (by rw [List.length_set]; omega), List.getElem_set_self, List.filter_cons, hq]
        rfl
      · simp only []
        rw [List.drop_set_of_lt (by omega), hd]
    | false =>
      refine .inl ⟨(n, W), by rw [Tr.run_false (by rfl), Tr.run_leaf, z6 (by omega)], ⟨by simp only []; omega, h2, ?_, hd⟩, fun r hr => hr⟩
      simp only []
      rw [h3, zng hi default, List.filter_append, List.filter_cons, hq]
      simp
  · simp only []
    rw [zng hk default, List.filter_append, List.filter_cons, hn, List.filter_eq_self.2 (fun a h => List.all_eq_true.1 ha a h)]
    simp
theorem zakl {l : List Asked} {c : Int} (hl : l.length * 88 ≤ 140737488351232) : zdk c l = some (c, l.filter (z51 c)) := by
  have hi : zbn c l = some (-1, c, l) ∧ l.all (z51 c) = true ∨ ∃ k : Nat, zbn c l = some ((k : Int), c, l) ∧ k < l.length ∧ (l.take k).all (z51 c) = true ∧ z51 c (l.getD k default) = false := by
    obtain ⟨r, h1, h2⟩ := zakk (c := c) hl
    rw [zbn, zbr]
    cases r with
    | inl y =>
      obtain ⟨k, rfl, h3, h4, h5⟩ := h2
      exact .inr ⟨k, by rw [Tr.run_inl h1, Tr.run_leaf], h3, h4, h5⟩
    | inr y =>
      obtain ⟨rfl, h3⟩ := h2
      exact .inl ⟨by rw [Tr.run_inr h1, Tr.run_leaf], h3⟩
  rw [zdk, zby]
  rcases hi with ⟨h1, h2⟩ | ⟨k, h1, h2, h3, h4⟩
  · rw [Tr.run_bind h1, Tr.run_true (by rfl), Tr.run_leaf, List.filter_eq_self.2 (fun a h => List.all_eq_true.1 h2 a h)]
  · obtain ⟨r, k1, n, k2, k3, k4, k5, k6⟩ := zag3 hl h2 h3 h4
    have hcl : zadj r.2.2 r.1 = some (r.2.2.take n ++ List.replicate (r.2.2.length - n) default) := by
      unfold zadj
      rw [k2, if_pos (by omega), Int.toNat_natCast]
    have hlt : (r.2.2.take n).length = n := by rw [List.length_take]; omega
    rw [Tr.run_bind h1, Tr.run_false (by simp), z6 (by omega), Tr.run_bind k1, Tr.run_bind hcl, k2, Tr.run_guard ⟨by omega, by rw [zgi, List.length_append, hlt]; omega⟩, Tr.run_leaf, k3, Int.toNat_natCast, List.drop_zero, Nat.sub_zero, List.take_left' hlt, k6]
theorem zacp {p : za} (hf : FitPr 140737488351232 p) {c : Int} : zdv p c = some (zwf p c) := by
  rw [zdv, ziz, Tr.run_bind (zkx hf)]
  unfold zwf
  rw [Tr.run_guard (by
    intro h0
    simp only [Bool.or_eq_false_iff, decide_eq_false_iff_not] at h0
    exact ⟨by omega, trivial⟩)]
  by_cases h : zav p = true ∧ (0 ≤ c ∧ c < 2) ∧ p.Links.On.get c = true
  · obtain ⟨h1, h2, h3⟩ := h
    rw [if_pos ⟨h1, h2, h3⟩, Tr.run_false (by rw [h1, h3]; simp; omega), Tr.run_guard h2, Tr.run_guard h2, Tr.run_guard h2, Tr.run_guard h2, Tr.run_guard h2, Tr.run_bind (z33 hf.waits), Tr.run_bind (zaak hf.queue), Tr.run_bind (zakl hf.queue), Tr.run_leaf]
    rfl
  · rw [if_neg h, Tr.run_true (by
      simp only [Bool.or_eq_true, decide_eq_true_eq, Bool.not_eq_true']
      cases h1 : zav p with
      | false => exact .inl (.inl (.inl rfl))
      | true =>
        by_cases h2 : 0 ≤ c ∧ c < 2
        · exact .inr (Bool.eq_false_iff.2 (fun h3 => h ⟨h1, h2, h3⟩))
        · exact .inl (by omega)), Tr.run_leaf]
end Go.Proofs.YtmakmlnfbdablaaGreat.Ab
namespace Go.Proofs.YtmakmlnfbdablaaGreat.Ab
open Go Go.RowKit
set_option linter.unusedVariables false
set_option linter.unusedSimpArgs false
theorem zaev {α : Type} {P : α → Prop} {a : A2 α} (h0 : P (a.get 0)) (h1 : P (a.get 1)) (c : Int) : P (a.get c) := by
  by_cases h : c = 0
  · rw [h]; exact h0
  · have : a.get c = a.get 1 := by unfold A2.get; rw [if_neg h]; rfl
    rw [this]; exact h1
theorem z8c {m : Int} : ∀ {l : List Power} {p : Int}, (∀ q, q ∈ l → p < q.V ∧ q.V ≤ 5 ∧ m ≤ q.N ∧ q.N ≤ 1125899906842624) → l.Pairwise (fun a b => a.V < b.V) → zab m p l = true
  | [], p, _, _ => rfl
  | q :: l, p, h1, h2 => by
    have hq := h1 q (List.mem_cons_self ..)
    rw [List.pairwise_cons] at h2
    simp only [zab, Bool.and_eq_true, decide_eq_true_eq]
    exact ⟨⟨⟨⟨hq.1, hq.2.1⟩, hq.2.2.1⟩, hq.2.2.2⟩, z8c (fun x hx => ⟨h2.1 x hx, (h1 x (List.mem_cons_of_mem _ hx)).2⟩) h2.2⟩
theorem za2m {s : Stake} (hg : GoodS s) : zab 1 (-1) (setS s) = true := by
  refine z8c (fun q hq => ?_) (zyp _)
  obtain ⟨hv, _, hn, h1⟩ := zaqu hg hq
  have := (hg.at hv).1.1
  unfold inA at this
  omega
def GoodX (p : za) : Prop := GoodS p.Stake ∧ (0 ≤ p.Height ∧ 0 ≤ p.Time ∧ p.Time ≤ 1099511627776) ∧ zab 1 (-1) p.Set = true ∧ okLk p 0 = true ∧ okLk p 1 = true ∧ p.Queue.all (zzs p) = true
theorem goodPr_iff {p : za} : zav p = true ↔ GoodX p ∧ p.Height < 1099511627776 := by
  constructor
  · intro h
    obtain ⟨a, ⟨b1, b2, b3, b4⟩, c, d, e, f⟩ := zky h
    exact ⟨⟨a, ⟨b1, b3, b4⟩, c, d, e, f⟩, b2⟩
  · rintro ⟨⟨a, ⟨b1, b3, b4⟩, c, d, e, f⟩, b2⟩
    unfold zav
    simp only [Bool.and_eq_true, decide_eq_true_eq]
    exact ⟨⟨⟨⟨⟨a, b1, b2, b3, b4⟩, c⟩, d⟩, e⟩, f⟩
structure LkX (p : za) (c : Int) : Prop where
  on : ¬ (p.Links.On.get c = true ∧ p.Links.Gone.get c = true)
  b0 : 0 ≤ p.Links.Base.get c
  b1 : p.Links.Base.get c ≤ p.Height
  told : zab 1 (-1) (p.Links.Told.get c) = true
  line : zen (zj3 p.Links c)
  done : zau (-1) (p.Links.Done.get c) = true
theorem okLk_iff {p : za} {c : Int} : okLk p c = true ↔ LkX p c := by
  unfold okLk
  simp only [Bool.and_eq_true, decide_eq_true_eq]
  constructor
  · rintro ⟨⟨⟨⟨⟨h1, h2⟩, h3⟩, h4⟩, h5⟩, h6⟩
    exact ⟨fun ⟨x, y⟩ => (by rw [x, y] at h1; cases h1), h2, h3, h4, h5, h6⟩
  · rintro ⟨h1, h2, h3, h4, h5, h6⟩
    refine ⟨⟨⟨⟨⟨?_, h2⟩, h3⟩, h4⟩, h5⟩, h6⟩
    cases x : p.Links.On.get c
    · rfl
    · cases y : p.Links.Gone.get c
      · rfl
      · exact absurd ⟨x, y⟩ h1
theorem GoodX.lk {p : za} (h : GoodX p) {c : Int} (hc : 0 ≤ c ∧ c < 2) : LkX p c := by
  rcases (show c = 0 ∨ c = 1 by omega) with rfl | rfl
  · exact okLk_iff.1 h.2.2.2.1
  · exact okLk_iff.1 h.2.2.2.2.1
theorem ask_iff {p : za} {a : Asked} : zzs p a = true ↔ (0 ≤ a.C ∧ a.C < 2) ∧ p.Links.On.get a.C = true ∧ zfj a.P = 0 ∧ a.P.Kind ≠ 1 := by
  unfold zzs
  simp only [Bool.and_eq_true, decide_eq_true_eq, beq_iff_eq, Bool.not_eq_true', beq_eq_false_iff_ne]
  constructor
  · rintro ⟨⟨⟨⟨c0, c1⟩, c2⟩, c3⟩, c4⟩; exact ⟨⟨c0, c1⟩, c2, c3, c4⟩
  · rintro ⟨⟨c0, c1⟩, c2, c3, c4⟩; exact ⟨⟨⟨⟨c0, c1⟩, c2⟩, c3⟩, c4⟩
theorem GoodX.ask {p : za} (h : GoodX p) {a : Asked} (ha : a ∈ p.Queue) : (0 ≤ a.C ∧ a.C < 2) ∧ p.Links.On.get a.C = true ∧ zfj a.P = 0 ∧ a.P.Kind ≠ 1 := ask_iff.1 (List.all_eq_true.1 h.2.2.2.2.2 a ha)
theorem fitX {p : za} (h : GoodX p) {R : Nat} (hR : 100000 ≤ R) (hq : p.Queue.length * 88 ≤ R) : FitPr R p := by
  have l0 := h.lk (c := 0) (by omega)
  have l1 := h.lk (c := 1) (by omega)
  have lp : ∀ {l : List Power}, zab 1 (-1) l = true → l.length * 16 ≤ R := fun hl => by have := znd hl (by omega); omega
  have ld : ∀ {l : List Int}, zau (-1) l = true → l.length * 8 ≤ R := fun hl => by have := z50 hl; omega
  have lS : ∀ {c : Int}, LkX p c → (p.Links.Said.get c).length ≤ 400 ∧ (p.Links.Due.get c).length ≤ 400 := by
    intro c l
    have e1 : (p.Links.Said.get c).length = (p.Links.Due.get c).length := l.line.1
    have e2 : (p.Links.Said.get c).length ≤ 400 := l.line.2.1
    omega
  have s0 := lS l0
  have s1 := lS l1
  have hw : p.Stake.Waits.length ≤ 60 := h.1.2.1.2.2
  have t0 := lp l0.told; have t1 := lp l1.told; have d0 := ld l0.done; have d1 := ld l1.done
  have hset := lp h.2.2.1
  have hask := fun a ha => z8b (h.ask (a := a) ha).2.2.1
  have hw' : p.Stake.Waits.length * 64 ≤ R := by omega
  have a0 : (p.Links.Said.get 0).length * 16 ≤ R := by omega
  have a1 : (p.Links.Said.get 1).length * 16 ≤ R := by omega
  have b0 : (p.Links.Due.get 0).length * 8 ≤ R := by omega
  have b1 : (p.Links.Due.get 1).length * 8 ≤ R := by omega
  have hps : ∀ a, a ∈ p.Queue → a.P.Set.length * 16 ≤ R ∧ a.P.Done.length * 8 ≤ R := fun a ha => by have := hask a ha; omega
  exact ⟨hw', hset, fun c => zaev (P := fun l : List Power => l.length * 16 ≤ R) (a := p.Links.Told) t0 t1 c, fun c => zaev (P := fun l : List Int => l.length * 8 ≤ R) (a := p.Links.Done) d0 d1 c,
    fun c => zaev (P := fun l : List ByteArray => l.length * 16 ≤ R) (a := p.Links.Said) a0 a1 c, fun c => zaev (P := fun l : List Int => l.length * 8 ≤ R) (a := p.Links.Due) b0 b1 c, hq, hps⟩
theorem zakm {l : zbk} {s : ByteArray} {u : Int} (h : zen l) (hu : 0 ≤ u) : zen (sayL l s u).1 := by
  unfold sayL
  rw [if_neg (by rintro (k | k); exact k h; omega)]
  split
  · exact h
  · split
    · exact h
    · rename_i h4
      obtain ⟨g1, g2, g3, g4, g5⟩ := h
      refine ⟨by simp [g1], by simp only [List.length_append, List.length_singleton]; omega, g3, by simp only [List.length_append, List.length_singleton]; omega, ?_⟩
      simp only [List.any_append, g5, Bool.false_or, List.any_cons, List.any_nil, Bool.or_false, decide_eq_false_iff_not]
      omega
theorem z52 {p : za} (hg : zav p = true) (now : Int) : ∃ S D M, (zhq p now).1 = upP (z0o p now) S D M ∧ GoodS S ∧ (∀ c : Int, zau (-1) (D.get c) = true) ∧ (zhq p now).2.2.length ≤ p.Queue.length ∧ ∀ b, b ∈ (zhq p now).2.2 → b ∈ p.Queue := by
  obtain ⟨⟨S, D, M, e, hS, d0, d1⟩, hq2, hq3, hq4⟩ := z79 (now := now) hg
  exact ⟨S, D, M, e, hS, zaev (P := fun l => zau (-1) l = true) d0 d1, hq2, hq4⟩
theorem zaew {p : za} (hg : zav p = true) {now : Int} (hn : p.Time ≤ now ∧ now ≤ 1099511627776) : GoodX (zqo p now) := by
  obtain ⟨S, D, M, e, hS, hd, hl, hm⟩ := z52 hg now
  have hx := (goodPr_iff.1 hg).1
  have hp := zaii hS now
  have hn0 := hx.2.1
  unfold zqo
  rw [e]
  refine ⟨hp, ⟨by show 0 ≤ p.Height + 1; omega, by show 0 ≤ now; omega, hn.2⟩, za2m hp, okLk_iff.2 ?_, okLk_iff.2 ?_, List.all_eq_true.2 fun b hb => ?_⟩
  · obtain ⟨a1, a2, a3, a4, a5, a6⟩ := hx.lk (c := 0) (by omega)
    exact ⟨a1, a2, by show p.Links.Base.get 0 ≤ p.Height + 1; omega, a4, a5, hd 0⟩
  · obtain ⟨a1, a2, a3, a4, a5, a6⟩ := hx.lk (c := 1) (by omega)
    exact ⟨a1, a2, by show p.Links.Base.get 1 ≤ p.Height + 1; omega, a4, a5, hd 1⟩
  · exact ask_iff.2 (hx.ask (hm b hb))
theorem z3h (p : za) (c now : Int) : (ze9 p c now).Height = p.Height ∧ (ze9 p c now).Time = p.Time ∧ (ze9 p c now).Stake = p.Stake ∧ (ze9 p c now).Set = p.Set ∧ (ze9 p c now).Meter = p.Meter ∧ (ze9 p c now).Queue = p.Queue ∧
    (ze9 p c now).Links.On = p.Links.On ∧ (ze9 p c now).Links.Gone = p.Links.Gone ∧ (ze9 p c now).Links.Base = p.Links.Base ∧ (ze9 p c now).Links.SHeight = p.Links.SHeight ∧ (ze9 p c now).Links.STime = p.Links.STime ∧ (ze9 p c now).Links.SSaid = p.Links.SSaid ∧ (ze9 p c now).Links.SGot = p.Links.SGot := by
  unfold ze9
  repeat' split
  all_goals exact ⟨rfl, rfl, rfl, rfl, rfl, rfl, rfl, rfl, rfl, rfl, rfl, rfl, rfl⟩
theorem zaal {p : za} {c j now : Int} (hc : 0 ≤ c ∧ c < 2) (hj : 0 ≤ j ∧ j < 2) (h : j ≠ c) : (ze9 p c now).Links.Told.get j = p.Links.Told.get j ∧ (ze9 p c now).Links.Fresh.get j = p.Links.Fresh.get j ∧ (ze9 p c now).Links.Done.get j = p.Links.Done.get j ∧ zj3 (ze9 p c now).Links j = zj3 p.Links j := by
  unfold ze9
  repeat' split
  · exact ⟨rfl, rfl, rfl, rfl⟩
  · exact ⟨rfl, rfl, rfl, rfl⟩
  · exact ⟨rfl, rfl, rfl, rfl⟩
  · unfold zaq6 zj3
    simp only [zam _ _ hc hj, if_neg h]
    exact ⟨trivial, trivial, trivial, trivial⟩
theorem za2n {p : za} {c : Int} (hs : zab 1 (-1) p.Set = true) : zab 0 (-1) (dOf p c) = true := by
  have hb : ∀ v : Nat, 0 ≤ fP p.Set v ∧ fP p.Set v ≤ 1125899906842624 := by
    intro v
    unfold fP
    have hm := zqr (by omega) hs (by omega)
    revert hm
    generalize p.Set = l
    intro hm
    induction l with
    | nil => simp [zeu]
    | cons q l ih =>
      simp only [zeu]
      split
      · have := hm q (List.mem_cons_self ..); omega
      · exact ih (fun q hq => hm q (List.mem_cons_of_mem _ hq))
  unfold dOf
  generalize fP p.Set = g at hb
  generalize fP (p.Links.Told.get c) = f
  have hm : ∀ q, q ∈ z0m f g → ∃ v : Nat, v < 6 ∧ q = ⟨v, g v⟩ := by
    intro q hq
    rw [z7o] at hq
    simp only [List.mem_append, List.not_mem_nil, or_false] at hq
    have key : ∀ v : Nat, v < 6 → q ∈ z7n (v : Int) (g v) (f v) → ∃ v : Nat, v < 6 ∧ q = ⟨v, g v⟩ := by
      intro v hv h
      unfold z7n at h
      split at h
      · exact ⟨v, hv, List.mem_singleton.1 h⟩
      · cases h
    rcases hq with h | h | h | h | h | h
    · exact key 0 (by omega) h
    · exact key 1 (by omega) h
    · exact key 2 (by omega) h
    · exact key 3 (by omega) h
    · exact key 4 (by omega) h
    · exact key 5 (by omega) h
  refine z8c (fun q hq => ?_) ?_
  · obtain ⟨v, hv, rfl⟩ := hm q hq
    have := hb v
    refine ⟨by show (-1 : Int) < (v : Int); omega, by show (v : Int) ≤ 5; omega, this.1, this.2⟩
  · rw [z7o]
    have one : ∀ (v : Int) (x y : Int), (z7n v x y).Pairwise (fun a b => a.V < b.V) := by
      intro v x y; unfold z7n; split
      · exact List.pairwise_singleton ..
      · exact .nil
    have mem : ∀ {v x y : Int} {q : Power}, q ∈ z7n v x y → q.V = v := by
      intro v x y q h; unfold z7n at h; split at h
      · rw [List.mem_singleton.1 h]
      · cases h
    refine List.pairwise_append.2 ⟨one _ _ _, List.pairwise_append.2 ⟨one _ _ _, List.pairwise_append.2 ⟨one _ _ _, List.pairwise_append.2 ⟨one _ _ _, List.pairwise_append.2 ⟨one _ _ _, List.pairwise_append.2 ⟨one _ _ _, .nil, ?_⟩, ?_⟩, ?_⟩, ?_⟩, ?_⟩, ?_⟩
    all_goals
      intro a ha b hb
      have k := mem ha
      first
      | (exfalso; cases hb; done)
      | (simp only [List.mem_append, List.not_mem_nil, or_false] at hb
         first
         | (rcases hb with h | h | h | h | h <;> have := mem h <;> omega)
         | (rcases hb with h | h | h | h <;> have := mem h <;> omega)
         | (rcases hb with h | h | h <;> have := mem h <;> omega)
         | (rcases hb with h | h <;> have := mem h <;> omega)
         | (have := mem hb; omega))
theorem zanz {p : za} {c : Int} (hs : zab 1 (-1) p.Set = true) (hd : zau (-1) (p.Links.Done.get c) = true) (hH : 1 ≤ p.Height ∧ p.Height ≤ 1099511627776) : zfj (pkOf p c) = 0 := by
  unfold zfj pkOf
  simp only []
  rw [if_neg (by omega), if_neg (by omega), if_neg (by omega), za2n hs, hd]
  rfl
theorem zaq8 {p : za} {c now : Int} (h : GoodX p) (hc : 0 ≤ c ∧ c < 2) (hH : 1 ≤ p.Height ∧ p.Height ≤ 1099511627776) (hn : 0 ≤ now) :
    (ze9 p c now = p ∧ (z5b p c ∨ p.Links.Closed.get c = true ∨ 400 ≤ (p.Links.Said.get c).length)) ∨
    (¬ z5b p c ∧ p.Links.Closed.get c = false ∧ (p.Links.Said.get c).length < 400 ∧ (ze9 p c now).Links = { p.Links with Told := p.Links.Told.set c p.Set, Fresh := p.Links.Fresh.set c false, Done := p.Links.Done.set c [], Said := p.Links.Said.set c (p.Links.Said.get c ++ [txt (zuy (pkOf p c))]), Due := p.Links.Due.set c (p.Links.Due.get c ++ [now + 40]) }) := by
  have lk := h.lk hc
  have hg := zanz (c := c) h.2.2.1 lk.done hH
  unfold ze9
  by_cases hq : z5b p c
  · rw [if_pos hq]; exact .inl ⟨rfl, .inl hq⟩
  · rw [if_neg hq, zoz hg, if_neg (by simp)]
    have hu : ¬ (¬ zen (zj3 p.Links c) ∨ now + 40 < 0) := by rintro (k | k); exact k lk.line; omega
    cases hcl : p.Links.Closed.get c with
    | true =>
      have : zsa p c now = (zj3 p.Links c, 11) := by unfold zsa sayL; rw [if_neg hu, if_pos hcl]
      rw [this, if_pos (by simp)]; exact .inl ⟨rfl, .inr (.inl rfl)⟩
    | false =>
      by_cases h4 : 400 ≤ (p.Links.Said.get c).length
      · have : zsa p c now = (zj3 p.Links c, 6) := by unfold zsa sayL; rw [if_neg hu, if_neg (by simp [hcl]), if_pos h4]
        rw [this, if_pos (by simp)]; exact .inl ⟨rfl, .inr (.inr h4)⟩
      · have e : zsa p c now = (⟨p.Links.Said.get c ++ [txt (zuy (pkOf p c))], p.Links.Due.get c ++ [now + 40], p.Links.Got.get c, p.Links.Closed.get c⟩, 0) := by
          unfold zsa sayL; rw [if_neg hu, if_neg (by simp [hcl]), if_neg h4, zoz hg]
        rw [if_neg (by rw [e]; simp)]
        refine .inr ⟨hq, rfl, by omega, ?_⟩
        unfold zaq6
        rw [e]
        simp only [zru _ hc]
theorem z8d {p : za} {c now : Int} (h : GoodX p) (hc : 0 ≤ c ∧ c < 2) (hn : 0 ≤ now) : GoodX (ze9 p c now) := by
  unfold ze9
  repeat' split
  · exact h
  · exact h
  · exact h
  · have hlk : ∀ j : Int, 0 ≤ j ∧ j < 2 → LkX (zaq6 p c now) j := by
      intro j hj
      obtain ⟨a1, a2, a3, a4, a5, a6⟩ := h.lk hj
      by_cases e : j = c
      · subst e
        refine ⟨a1, a2, a3, ?_, ?_, ?_⟩
        · show zab 1 (-1) ((p.Links.Told.set j p.Set).get j) = true
          rw [zam _ _ hj hj, if_pos rfl]; exact h.2.2.1
        · show zen ⟨(p.Links.Said.set j (zsa p j now).1.Said).get j, (p.Links.Due.set j (zsa p j now).1.Due).get j, (p.Links.Got.set j (zsa p j now).1.Got).get j, (p.Links.Closed.set j (zsa p j now).1.Closed).get j⟩
          simp only [zam _ _ hj hj, if_pos]
          refine zakm a5 ?_
          have : 0 ≤ now := hn
          omega
        · show zau (-1) ((p.Links.Done.set j []).get j) = true
          rw [zam _ _ hj hj, if_pos rfl]; rfl
      · refine ⟨a1, a2, a3, ?_, ?_, ?_⟩
        · show zab 1 (-1) ((p.Links.Told.set c p.Set).get j) = true
          rw [zam _ _ hc hj, if_neg e]; exact a4
        · show zen ⟨(p.Links.Said.set c (zsa p c now).1.Said).get j, (p.Links.Due.set c (zsa p c now).1.Due).get j, (p.Links.Got.set c (zsa p c now).1.Got).get j, (p.Links.Closed.set c (zsa p c now).1.Closed).get j⟩
          simp only [zam _ _ hc hj, if_neg e]
          exact a5
        · show zau (-1) ((p.Links.Done.set c []).get j) = true
          rw [zam _ _ hc hj, if_neg e]; exact a6
    exact ⟨h.1, h.2.1, h.2.2.1, okLk_iff.2 (hlk 0 (by omega)), okLk_iff.2 (hlk 1 (by omega)), h.2.2.2.2.2⟩
theorem zaq9 {p : za} (hg : zav p = true) {now : Int} (hn : p.Time ≤ now ∧ now ≤ 1099511627776) : GoodX (zo3 p now).1 := by
  unfold zo3
  rw [if_pos ⟨hg, hn⟩]
  have h0 := (goodPr_iff.1 hg).1.2.1
  exact z8d (z8d (zaew hg hn) (by omega) (by omega)) (by omega) (by omega)
theorem zaex {p : za} (hg : zav p = true) {c : Int} (hc : 0 ≤ c ∧ c < 2) : zav (zwe p c) = true := by
  obtain ⟨hx, hH⟩ := goodPr_iff.1 hg
  have hlk : ∀ j : Int, 0 ≤ j ∧ j < 2 → LkX (zwe p c) j := by
    intro j hj
    obtain ⟨a1, a2, a3, a4, a5, a6⟩ := hx.lk hj
    refine ⟨?_, a2, a3, a4, a5, ?_⟩
    · show ¬ ((p.Links.On.set c false).get j = true ∧ (p.Links.Gone.set c true).get j = true)
      rw [zam _ _ hc hj, zam _ _ hc hj]
      by_cases e : j = c
      · rw [if_pos e]; simp
      · rw [if_neg e, if_neg e]; exact a1
    · show zau (-1) ((p.Links.Done.set c []).get j) = true
      rw [zam _ _ hc hj]
      by_cases e : j = c
      · rw [if_pos e]; rfl
      · rw [if_neg e]; exact a6
  refine goodPr_iff.2 ⟨⟨z49 hx.1, hx.2.1, hx.2.2.1, okLk_iff.2 (hlk 0 (by omega)), okLk_iff.2 (hlk 1 (by omega)), List.all_eq_true.2 fun b hb => ask_iff.2 ?_⟩, hH⟩
  obtain ⟨h1, h2⟩ := List.mem_filter.1 hb
  obtain ⟨q1, q2, q3, q4⟩ := hx.ask h1
  refine ⟨q1, ?_, q3, q4⟩
  show (p.Links.On.set c false).get b.C = true
  rw [zam _ _ hc q1, if_neg (by simpa [z51] using h2)]
  exact q2
end Go.Proofs.YtmakmlnfbdablaaGreat.Ab
namespace Go.Proofs.YtmakmlnfbdablaaGreat.Ab
open Go Go.RowKit
set_option linter.unusedVariables false
set_option linter.unusedSimpArgs false
theorem zan0 {p : za} {now : Int} (h : zav p = true ∧ p.Time ≤ now ∧ now ≤ 1099511627776) : (zo3 p now).2.2 = 0 := by unfold zo3; rw [if_pos h]
theorem zara {p : za} {now : Int} (h : zav p = true ∧ p.Time ≤ now ∧ now ≤ 1099511627776) :
    (zo3 p now).1.Height = p.Height + 1 ∧ (zo3 p now).1.Time = now ∧ (zo3 p now).1.Stake = (payS (zhq p now).1.Stake now).1 ∧ (zo3 p now).1.Set = setS (payS (zhq p now).1.Stake now).1 ∧ (zo3 p now).1.Queue = (zhq p now).2.2 ∧
    (zo3 p now).1.Links.On = p.Links.On ∧ (zo3 p now).1.Links.Gone = p.Links.Gone ∧ (zo3 p now).1.Links.Base = p.Links.Base := by
  unfold zo3
  rw [if_pos h]
  obtain ⟨S, D, M, e, -⟩ := z52 h.1 now
  obtain ⟨a1, a2, a3, a4, a5, a6, a7, a8, a9, -⟩ := z3h (ze9 (zqo p now) 0 now) 1 now
  obtain ⟨b1, b2, b3, b4, b5, b6, b7, b8, b9, -⟩ := z3h (zqo p now) 0 now
  simp only [a1, a2, a3, a4, a6, a7, a8, a9, b1, b2, b3, b4, b6, b7, b8, b9]
  refine ⟨?_, ?_, rfl, rfl, rfl, ?_, ?_, ?_⟩
  all_goals
    unfold zqo
    rw [e]
    rfl
end Go.Proofs.YtmakmlnfbdablaaGreat.Ab
namespace Go.Proofs.YtmakmlnfbdablaaGreat.Ab
open Go Go.RowKit
set_option linter.unusedVariables false
set_option linter.unusedSimpArgs false
def za2o (on fresh : Bool) (told : List Power) (D : List Int) (l : zbk) (H now : Int) (set told' : List Power) (D' : List Int) (fresh' : Bool) (l' : zbk) : Prop :=
  (told' = told ∧ D' = D ∧ fresh' = fresh ∧ l' = l ∧ (on = false ∨ (z0m (fP told) (fP set) = [] ∧ D = [] ∧ fresh = false) ∨ l.Closed = true ∨ 400 ≤ l.Said.length)) ∨
  (told' = set ∧ D' = [] ∧ fresh' = false ∧ on = true ∧ l.Closed = false ∧ l.Said.length < 400 ∧ ¬ (z0m (fP told) (fP set) = [] ∧ D = [] ∧ fresh = false) ∧ zfj ⟨1, H, 0, 0, z0m (fP told) (fP set), D⟩ = 0 ∧
    l' = ⟨l.Said ++ [txt (zuy ⟨1, H, 0, 0, z0m (fP told) (fP set), D⟩)], l.Due ++ [now + 40], l.Got, l.Closed⟩)
theorem zaey {p : za} {c now : Int} (h : GoodX p) (hc : 0 ≤ c ∧ c < 2) (hH : 1 ≤ p.Height ∧ p.Height ≤ 1099511627776) (hn : 0 ≤ now) :
    za2o (p.Links.On.get c) (p.Links.Fresh.get c) (p.Links.Told.get c) (p.Links.Done.get c) (zj3 p.Links c) p.Height now p.Set ((ze9 p c now).Links.Told.get c) ((ze9 p c now).Links.Done.get c) ((ze9 p c now).Links.Fresh.get c) (zj3 (ze9 p c now).Links c) := by
  rcases zaq8 h hc hH hn with ⟨e, h1⟩ | ⟨h1, h2, h3, e⟩
  · rw [e]
    refine .inl ⟨rfl, rfl, rfl, rfl, ?_⟩
    rcases h1 with (h1 | h1) | h1 | h1
    · exact .inl h1
    · exact .inr (.inl h1)
    · exact .inr (.inr (.inl h1))
    · exact .inr (.inr (.inr h1))
  · rw [e]
    have on : p.Links.On.get c = true := by
      cases o : p.Links.On.get c with
      | true => rfl
      | false => exact absurd (.inl o) h1
    refine .inr ⟨?_, ?_, ?_, on, h2, h3, fun k => h1 (.inr k), zanz h.2.2.1 (h.lk hc).done hH, ?_⟩
    · simp only [zam _ _ hc hc, if_pos]
    · simp only [zam _ _ hc hc, if_pos]
    · simp only [zam _ _ hc hc, if_pos]
    · unfold zj3
      simp only [zam _ _ hc hc, if_pos]
      rfl
theorem zan1 {p : za} (hg : zav p = true) (now : Int) : (zqo p now).Height = p.Height + 1 ∧ (zqo p now).Links.On = p.Links.On ∧ (zqo p now).Links.Fresh = p.Links.Fresh ∧ (zqo p now).Links.Told = p.Links.Told ∧ (∀ c, zj3 (zqo p now).Links c = zj3 p.Links c) := by
  obtain ⟨S, D, M, e, -⟩ := z52 hg now
  unfold zqo
  rw [e]
  exact ⟨rfl, rfl, rfl, rfl, fun _ => rfl⟩
theorem zai0 {p : za} {now : Int} (h : zav p = true ∧ p.Time ≤ now ∧ now ≤ 1099511627776) {c : Int} (hc : 0 ≤ c ∧ c < 2) :
    ∃ D, D = (zqo p now).Links.Done.get c ∧ za2o (p.Links.On.get c) (p.Links.Fresh.get c) (p.Links.Told.get c) D (zj3 p.Links c) (zo3 p now).1.Height now (zo3 p now).1.Set ((zo3 p now).1.Links.Told.get c) ((zo3 p now).1.Links.Done.get c) ((zo3 p now).1.Links.Fresh.get c) (zj3 (zo3 p now).1.Links c) := by
  obtain ⟨hx, hH⟩ := goodPr_iff.1 h.1
  have hn : 0 ≤ now := by have := hx.2.1.2.1; omega
  have h0 := hx.2.1.1
  have g0 := zaew h.1 h.2
  have g1 := z8d (c := 0) g0 (by omega) hn
  obtain ⟨p1, p2, p3, p4, p5⟩ := zan1 h.1 now
  obtain ⟨a1, a2, a3, a4, a5, a6, a7, a8, a9, -⟩ := z3h (ze9 (zqo p now) 0 now) 1 now
  obtain ⟨b1, b2, b3, b4, b5, b6, b7, b8, b9, -⟩ := z3h (zqo p now) 0 now
  refine ⟨_, rfl, ?_⟩
  unfold zo3
  rw [if_pos h]
  simp only []
  rw [a1, a4, b1, b4, ← p2, ← p3, ← p4, ← p5 c]
  rcases (show c = 0 ∨ c = 1 by omega) with rfl | rfl
  · obtain ⟨t1, t2, t3, t4⟩ := zaal (p := ze9 (zqo p now) 0 now) (c := 1) (j := 0) (now := now) (by omega) (by omega) (by omega)
    rw [t1, t2, t3, t4]
    exact zaey g0 hc (by omega) hn
  · obtain ⟨t1, t2, t3, t4⟩ := zaal (p := zqo p now) (c := 0) (j := 1) (now := now) (by omega) (by omega) (by omega)
    have := zaey (c := 1) (now := now) g1 hc (by rw [b1]; omega) hn
    rw [b7, t1, t2, t3, t4, b1, b4] at this
    exact this
end Go.Proofs.YtmakmlnfbdablaaGreat.Ab
namespace Go.Proofs.YtmakmlnfbdablaaGreat.Ab
open Go Go.RowKit
set_option linter.unusedVariables false
set_option linter.unusedSimpArgs false
theorem z39 {C : zdf} {i j : Int} (hi : 0 ≤ i ∧ i < 2) (hj : 0 ≤ j ∧ j < 2) (c : zb) : zc (zrw C i c) j = if j = i then c else zc C j := by
  unfold zc zrw
  simp only [zam _ _ hi hj]
  by_cases e : j = i
  · simp only [if_pos e]
  · simp only [if_neg e]
theorem znh {C : zdf} {i : Int} (hi : 0 ≤ i ∧ i < 2) (c : zb) : zc (zrw C i c) i = c := by rw [z39 hi hi, if_pos rfl]
theorem zla {C : zdf} {i j : Int} (hi : 0 ≤ i ∧ i < 2) (hj : 0 ≤ j ∧ j < 2) (h : j ≠ i) (c : zb) : zc (zrw C i c) j = zc C j := by rw [z39 hi hj, if_neg h]
theorem zaez {C : zdf} {i : Int} (hi : 0 ≤ i ∧ i < 2) : zrw C i (zc C i) = C := by
  unfold zc zrw
  simp only [zru _ hi]
def z0q (L : Links) (i : Int) (l : zbk) : Links := { L with Said := L.Said.set i l.Said, Due := L.Due.set i l.Due, Got := L.Got.set i l.Got, Closed := L.Closed.set i l.Closed }
def z1h (L : Links) (i : Int) (h : z9i) : Links := { L with SHeight := L.SHeight.set i h.Height, STime := L.STime.set i h.Time, SSaid := L.SSaid.set i h.Said, SGot := L.SGot.set i h.Got }
theorem zux {L : Links} {i j : Int} (hi : 0 ≤ i ∧ i < 2) (hj : 0 ≤ j ∧ j < 2) (l : zbk) : zk (z0q L i l) j = if j = i then { zk L j with Out := l } else zk L j := by
  unfold zk z0q
  simp only [zam _ _ hi hj]
  by_cases e : j = i
  · simp only [if_pos e]
  · simp only [if_neg e]
theorem zag4 {L : Links} {i j : Int} (hi : 0 ≤ i ∧ i < 2) (hj : 0 ≤ j ∧ j < 2) (h : z9i) : zk (z1h L i h) j = if j = i then { zk L j with Seen := h } else zk L j := by
  unfold zk z1h
  simp only [zam _ _ hi hj]
  by_cases e : j = i
  · simp only [if_pos e]
  · simp only [if_neg e]
theorem zrv (L : Links) (i : Int) : zj3 L i = (zk L i).Out := rfl
def noW (w : Wld) (e : Int) : Wld × Reply := (w, ⟨e, 0⟩)
def zan2 (h : zzn) (p : za) (C : zdf) : zzn :=
  { h with PHeight := ⟨p.Height, p.Height⟩, PTime := ⟨p.Time, p.Time⟩, PSaid := ⟨((p.Links.Said.x0.length : Nat) : Int), ((p.Links.Said.x1.length : Nat) : Int)⟩, PGot := C.Got }
def za2p (h : zzn) (i : Int) (c : zb) (got : Int) : zzn :=
  { h with CHeight := h.CHeight.set i c.Height, CTime := h.CTime.set i c.Time, CSaid := h.CSaid.set i ((c.Out.Said.length : Nat) : Int), CGot := h.CGot.set i got }
def zaso (h : zzn) (i : Int) : zzn :=
  ⟨h.PHeight.set i 0, h.PTime.set i 0, h.PSaid.set i 0, h.PGot.set i 0, h.CHeight.set i 0, h.CTime.set i 0, h.CSaid.set i 0, h.CGot.set i 0⟩
def za2q (h : zzn) (i : Int) : z9i := ⟨h.PHeight.get i, h.PTime.get i, h.PSaid.get i, h.PGot.get i⟩
def za2r (h : zzn) (i : Int) : z9i := ⟨h.CHeight.get i, h.CTime.get i, h.CSaid.get i, h.CGot.get i⟩
def zmp (w : Wld) : Wld × Reply :=
  if (zo3 w.p w.clock).2.2 ≠ 0 then noW w (zo3 w.p w.clock).2.2
  else ({ w with p := (zo3 w.p w.clock).1, heads := zan2 w.heads (zo3 w.p w.clock).1 w.consumers }, ⟨0, (((zo3 w.p w.clock).2.1.length : Nat) : Int)⟩)
def z3i (w : Wld) (i : Int) : Wld × Reply :=
  if (zev w.p i).2 ≠ 0 then noW w (zev w.p i).2
  else ({ w with p := (zev w.p i).1, consumers := zrw w.consumers i (zuv (zev w.p i).1.Set (zev w.p i).1.Height w.clock), heads := zaso w.heads i }, ⟨0, (zev w.p i).1.Height⟩)
def zwg (w : Wld) (i : Int) : Wld × Reply :=
  if (endC w.clock (zc w.consumers i)).2 ≠ 0 then noW w (endC w.clock (zc w.consumers i)).2
  else ({ w with consumers := zrw w.consumers i (endC w.clock (zc w.consumers i)).1, heads := za2p w.heads i (endC w.clock (zc w.consumers i)).1 (w.p.Links.Got.get i) }, ⟨0, 0⟩)
def z8e (w : Wld) (i : Int) (back : Bool) : Wld × Reply :=
  if back = true then ({ w with p := { w.p with Links := z1h w.p.Links i (za2r w.heads i) } }, ⟨0, 0⟩)
  else ({ w with consumers := zrw w.consumers i { zc w.consumers i with Seen := za2q w.heads i } }, ⟨0, 0⟩)
def zae0 (n : Nat) : Packet := ⟨3, 1, 0, IntKind.i64.wrap (1 + (n : Int)), [], []⟩
def zakn (l : zbk) : ByteArray := if l.Got < ((l.Said.length : Nat) : Int) then l.Said.getD l.Got.toNat .empty else (⟨#[]⟩ : ByteArray)
def zkz (l : zbk) (forged : Bool) : ByteArray := if forged = true then (zga (zae0 (zakn l).size)).1 else zakn l
def zcm (w : Wld) (i : Int) (back : Bool) : zbk := if back = true then (zc w.consumers i).Out else (zk w.p.Links i).Out
def zacq (w : Wld) (i : Int) (back : Bool) : Int := if back = true then w.p.Links.SSaid.get i else w.consumers.SSaid.get i
def zni (w : Wld) (d : Deed) : zbk × Int := zqm (zcm w d.C d.Back) (IntKind.i64.wrap ((zcm w d.C d.Back).Got + 1)) (zkz (zcm w d.C d.Back) d.Forged) (zacq w d.C d.Back) w.clock
def zoe (w : Wld) (d : Deed) : Wld × Reply :=
  if (zni w d).2 ≠ 0 then noW w (zni w d).2
  else if d.Back = true then
    (if (zpp w.p d.C (zkz (zcm w d.C d.Back) d.Forged).data.toList).2 ≠ 0 then noW w (zpp w.p d.C (zkz (zcm w d.C d.Back) d.Forged).data.toList).2
     else ({ w with p := (zpp w.p d.C (zkz (zcm w d.C d.Back) d.Forged).data.toList).1, consumers := zrw w.consumers d.C { zc w.consumers d.C with Out := (zni w d).1 } }, ⟨0, (zni w d).1.Got⟩))
  else (if (zyq (zc w.consumers d.C) (zkz (zcm w d.C d.Back) d.Forged).data.toList).2 ≠ 0 then noW w (zyq (zc w.consumers d.C) (zkz (zcm w d.C d.Back) d.Forged).data.toList).2
     else ({ w with p := { w.p with Links := z0q w.p.Links d.C (zni w d).1 }, consumers := zrw w.consumers d.C (zyq (zc w.consumers d.C) (zkz (zcm w d.C d.Back) d.Forged).data.toList).1 }, ⟨0, (zni w d).1.Got⟩))
def zacr (w : Wld) (d : Deed) : zbk × Int := if d.Back = true then z3z (zc w.consumers d.C).Out d.N (w.consumers.STime.get d.C) (w.consumers.SGot.get d.C) else z3z (zk w.p.Links d.C).Out d.N (w.p.Links.STime.get d.C) (w.p.Links.SGot.get d.C)
def zwh (w : Wld) (d : Deed) : Wld × Reply :=
  if (zacr w d).2 ≠ 0 then noW w (zacr w d).2 else ({ w with p := zwf w.p d.C, consumers := zrw w.consumers d.C (z1f (zc w.consumers d.C)) }, ⟨0, 0⟩)
def putW (w : Wld) (i : Int) (r : zb × Int) : Wld × Reply := if r.2 ≠ 0 then noW w r.2 else ({ w with consumers := zrw w.consumers i r.1 }, ⟨0, 0⟩)
def zmq (w : Wld) (d : Deed) : Wld × Reply :=
  if d.Kind < 4 ∨ 12 < d.Kind then noW w 3 else if d.C < 0 ∨ 2 ≤ d.C then noW w 4 else if d.Kind ≠ 4 ∧ w.consumers.On.get d.C = false then noW w 4
  else if d.Kind = 4 then z3i w d.C else if d.Kind = 7 then zwg w d.C else if d.Kind = 8 then z8e w d.C d.Back else if d.Kind = 9 then zoe w d else if d.Kind = 10 then zwh w d
  else if d.Kind = 11 then putW w d.C (z75 (zc w.consumers d.C) d.V w.clock) else if d.Kind = 12 then putW w d.C (ztu (zc w.consumers d.C) d.V d.N w.clock) else (w, ⟨0, 0⟩)
def zpd (w : Wld) (r : za × Int) : Wld × Reply := if r.2 ≠ 0 then noW w r.2 else ({ w with p := r.1 }, ⟨0, 0⟩)
def zai1 (p : za) (v : Int) : za × Int := ({ p with Stake := (zcw p.Stake v 1).1 }, (zcw p.Stake v 1).2)
def zag5 (w : Wld) (n : Int) : Wld × Reply := if n < 1 ∨ 1099511627736 - w.clock < n then noW w 2 else ({ w with clock := w.clock + n }, ⟨0, w.clock + n⟩)
def actW (w : Wld) (d : Deed) : Wld × Reply :=
  if d.Kind = 1 then zpd w (zdw w.p d.D d.V d.N) else if d.Kind = 2 then zpd w (zdo w.p d.D d.V d.N w.clock) else if d.Kind = 3 then zpd w (zai1 w.p d.V) else if d.Kind = 13 then zpd w (zys w.p d.V d.N)
  else if d.Kind = 5 then zag5 w d.N else if d.Kind = 6 then zmp w else zmq w d
def zal (w : Wld) : Wld := { w with deeds := w.deeds + 1 }
def doW (w : Wld) (d : Deed) : Wld × Reply := if 600 ≤ w.deeds then noW w 6 else actW (zal w) d
def newW : Wld := ⟨0, zaep, default, default, 0⟩
def Pk1 (s : ByteArray) : Prop := ∃ q, zfj q = 0 ∧ q.Kind = 1 ∧ s = txt (zuy q)
def PkB (s : ByteArray) : Prop := ∃ q, zfj q = 0 ∧ q.Kind ≠ 1 ∧ s = txt (zuy q)
structure ConsW (w : Wld) (i : Int) : Prop where
  good : zld (zc w.consumers i) = true
  height : (zc w.consumers i).Height ≤ w.deeds
  time : (zc w.consumers i).Time ≤ w.clock
  size : (((zc w.consumers i).Pending.length + (zc w.consumers i).Ripes.length : Nat) : Int) ≤ w.deeds
  on : (zc w.consumers i).On = w.p.Links.On.get i
  gone : (zc w.consumers i).Gone = w.p.Links.Gone.get i
  told : ∀ s, s ∈ (zk w.p.Links i).Out.Said → Pk1 s
  said : ∀ s, s ∈ (zc w.consumers i).Out.Said → PkB s
  fresh : w.p.Links.On.get i = false → w.p.Links.Gone.get i = false → zc w.consumers i = default ∧ (zk w.p.Links i).Out.Said = []
structure OkW (w : Wld) : Prop where
  d0 : 0 ≤ w.deeds
  d1 : w.deeds ≤ 600
  t0 : 0 ≤ w.clock
  t1 : w.clock ≤ 1099511627736
  p : GoodX w.p
  ph : w.p.Height ≤ w.deeds
  pt : w.p.Time ≤ w.clock
  pq : ((w.p.Queue.length : Nat) : Int) ≤ w.deeds
  c : ∀ i : Int, 0 ≤ i ∧ i < 2 → ConsW w i
theorem OkW.pr {w : Wld} (h : OkW w) : zav w.p = true := goodPr_iff.2 ⟨h.p, by have := h.ph; have := h.d1; omega⟩
theorem OkW.fit {w : Wld} (h : OkW w) : FitPr 140737488351232 w.p := fitX h.p (by omega) (by have := h.pq; have := h.d1; omega)
theorem zav7 {c : zb} (h : zld c = true) {n : Nat} (hn : n ≤ 1000000) (hs : c.Pending.length + c.Ripes.length ≤ n) : FitC 140737488351232 c := by
  obtain ⟨g1, g2, g3, g4, g5⟩ := zce h
  have e1 := znd g3 (by omega)
  have e2 : c.Out.Said.length = c.Out.Due.length := g2.1
  have e3 : c.Out.Said.length ≤ 400 := g2.2.1
  exact ⟨by omega, by omega, by omega, by omega, by omega, fun p hp => by have := z8b (z74 g5 p hp).1; omega⟩
theorem ConsW.fit {w : Wld} {i : Int} (h : ConsW w i) (hd : w.deeds ≤ 600) : FitC 140737488351232 (zc w.consumers i) :=
  zav7 h.good (n := 600) (by omega) (by have := h.size; omega)
structure SameL (p q : za) (i : Int) : Prop where
  on : p.Links.On.get i = q.Links.On.get i
  gone : p.Links.Gone.get i = q.Links.Gone.get i
  said : (zk p.Links i).Out.Said = (zk q.Links i).Out.Said
theorem SameL.refl (p : za) (i : Int) : SameL p p i := ⟨rfl, rfl, rfl⟩
theorem SameL.of {p q : za} {i : Int} (h : zk p.Links i = zk q.Links i) : SameL p q i := ⟨congrArg Link.On h, congrArg Link.Gone h, by rw [h]⟩
theorem ConsW.more {w w' : Wld} {i : Int} (h : ConsW w i) (hc : zc w'.consumers i = zc w.consumers i) (hl : SameL w'.p w.p i) (hd : w.deeds ≤ w'.deeds) (ht : w.clock ≤ w'.clock) : ConsW w' i := by
  obtain ⟨e1, e2, e3⟩ := hl
  obtain ⟨a1, a2, a3, a4, a5, a6, a7, a8, a9⟩ := h
  refine ⟨by rw [hc]; exact a1, by rw [hc]; omega, by rw [hc]; omega, by rw [hc]; omega, by rw [hc, e1]; exact a5, by rw [hc, e2]; exact a6, by rw [e3]; exact a7, by rw [hc]; exact a8, ?_⟩
  rw [e1, e2, hc, e3]; exact a9
theorem zkl {w : Wld} (h : OkW w) (hd : w.deeds < 600) : OkW (zal w) :=
  ⟨by have := h.d0; show 0 ≤ w.deeds + 1; omega, by show w.deeds + 1 ≤ 600; omega, h.t0, h.t1, h.p, by have := h.ph; show w.p.Height ≤ w.deeds + 1; omega, h.pt, by have := h.pq; show ((w.p.Queue.length : Nat) : Int) ≤ w.deeds + 1; omega,
    fun i hi => (h.c i hi).more rfl (.refl _ _) (by show w.deeds ≤ w.deeds + 1; omega) (by exact Int.le_refl _)⟩
theorem z8f : OkW newW := by
  have g : GoodX zaep := (goodPr_iff.1 zaaj).1
  refine ⟨by decide, by decide, by decide, by decide, g, by decide, by decide, by decide, fun i hi => ?_⟩
  have hc : zc newW.consumers i = default := by rcases (show i = 0 ∨ i = 1 by omega) with rfl | rfl <;> rfl
  have hl : zk newW.p.Links i = default := by rcases (show i = 0 ∨ i = 1 by omega) with rfl | rfl <;> rfl
  have e1 : newW.p.Links.On.get i = false := congrArg Link.On hl
  have e2 : newW.p.Links.Gone.get i = false := congrArg Link.Gone hl
  refine ⟨by rw [hc]; decide, by rw [hc]; decide, by rw [hc]; decide, by rw [hc]; decide, by rw [hc, e1]; rfl, by rw [hc, e2]; rfl, (by rw [hl]; intro s hs; cases hs), (by rw [hc]; intro s hs; cases hs), fun _ _ => ⟨hc, by rw [hl]; rfl⟩⟩
theorem zacs {w : Wld} (h : OkW w) {p : za} (hp : GoodX p) (hH : p.Height = w.p.Height) (hT : p.Time = w.p.Time) (hQ : p.Queue.length = w.p.Queue.length) (hl : ∀ i : Int, 0 ≤ i ∧ i < 2 → SameL p w.p i) : OkW { w with p := p } :=
  ⟨h.d0, h.d1, h.t0, h.t1, hp, by rw [hH]; exact h.ph, by rw [hT]; exact h.pt, by rw [hQ]; exact h.pq, fun i hi => (h.c i hi).more rfl (hl i hi) (Int.le_refl _) (Int.le_refl _)⟩
theorem z8g {p : za} (h : GoodX p) {s : Stake} (hs : GoodS s) : GoodX { p with Stake := s } := ⟨hs, h.2.1, h.2.2.1, h.2.2.2.1, h.2.2.2.2.1, h.2.2.2.2.2⟩
theorem z8h {w : Wld} (h : OkW w) {s : Stake} (hs : GoodS s) : OkW { w with p := { w.p with Stake := s } } := zacs h (z8g h.p hs) rfl rfl rfl fun _ _ => ⟨rfl, rfl, rfl⟩
theorem z3j {w : Wld} (h : OkW w) {r : za × Int} (hr : r.2 = 0 → OkW { w with p := r.1 }) : OkW (zpd w r).1 := by
  unfold zpd
  by_cases e : r.2 = 0
  · rw [if_neg (by simpa using e)]; exact hr e
  · rw [if_pos e]; exact h
theorem zae1 {w : Wld} (h : OkW w) (d v n : Int) : OkW (zpd w (zdw w.p d v n)).1 := by
  refine z3j h fun h0 => ?_
  unfold zdw at h0 ⊢
  rw [if_pos h.pr] at h0 ⊢
  by_cases e : (zcd w.p.Stake d v n).2 = 0
  · rw [if_neg (by simpa using e)]; exact z8h h (zacj e)
  · rw [if_pos e] at h0; exact absurd h0 e
theorem zag6 {p : za} (h : GoodX p) : GoodX { p with Links := zaeq p.Links } := by
  have hlk : ∀ j : Int, 0 ≤ j ∧ j < 2 → LkX { p with Links := zaeq p.Links } j := by
    intro j hj
    obtain ⟨a1, a2, a3, a4, a5, a6⟩ := h.lk hj
    exact ⟨a1, a2, a3, a4, a5, a6⟩
  exact ⟨h.1, h.2.1, h.2.2.1, okLk_iff.2 (hlk 0 (by omega)), okLk_iff.2 (hlk 1 (by omega)), h.2.2.2.2.2⟩
theorem z9h {w : Wld} (h : OkW w) (d v k : Int) : OkW (zpd w (zdo w.p d v k w.clock)).1 := by
  refine z3j h fun h0 => ?_
  unfold zdo at h0 ⊢
  have ht : zav w.p = true ∧ 0 ≤ w.clock ∧ w.clock ≤ 1099511627776 := ⟨h.pr, h.t0, by have := h.t1; omega⟩
  rw [if_pos ht] at h0 ⊢
  by_cases e : (zbq w.p.Stake d v k (z78 w.p w.clock)).2 = 0
  · rw [if_neg (by simpa using e)]
    have g := z71 e
    exact zacs h (z8g (zag6 h.p) g) rfl rfl rfl fun _ _ => ⟨rfl, rfl, rfl⟩
  · rw [if_pos e] at h0; exact absurd h0 e
theorem zako {w : Wld} (h : OkW w) (v : Int) : OkW (zpd w (zai1 w.p v)).1 :=
  z3j h fun _ => z8h h (zwc h.p.1 v (.inr (.inl rfl)))
theorem zarb {w : Wld} (h : OkW w) (v n : Int) : OkW (zpd w (zys w.p v n)).1 := by
  refine z3j h fun h0 => ?_
  unfold zys at h0 ⊢
  rw [if_neg (by rw [h.pr]; simp)] at h0 ⊢
  by_cases h1 : 0 ≤ v ∧ v < 6
  · rw [if_pos h1] at h0 ⊢
    by_cases h2 : 1 ≤ n ∧ n ≤ w.p.Height
    · rw [if_pos h2] at h0 ⊢
      by_cases h3 : w.p.Stake.Validators.Dead.get v = true
      · rw [if_pos h3] at h0; cases h0
      · rw [if_neg h3]; exact z8h h (zwc (zyr h.p.1 v n 50) v (.inr (.inr rfl)))
    · rw [if_neg h2] at h0; cases h0
  · rw [if_neg h1] at h0; cases h0
theorem zarc {w : Wld} (h : OkW w) (n : Int) : OkW (zag5 w n).1 := by
  unfold zag5
  split
  · exact h
  · rename_i hn
    have := h.t0; have := h.t1; have := h.pt
    exact ⟨h.d0, h.d1, by show 0 ≤ w.clock + n; omega, by show w.clock + n ≤ _; omega, h.p, h.ph, by show w.p.Time ≤ w.clock + n; omega, h.pq, fun i hi => (h.c i hi).more rfl (.refl _ _) (Int.le_refl _) (by show w.clock ≤ w.clock + n; omega)⟩
end Go.Proofs.YtmakmlnfbdablaaGreat.Ab
namespace Go.Proofs.YtmakmlnfbdablaaGreat.Ab
open Go Go.RowKit
set_option linter.unusedVariables false
set_option linter.unusedSimpArgs false
theorem zai2 {M : Int} (hM : 0 ≤ M) : ∀ {l : List Power}, (∀ q, q ∈ l → q.N ≤ M) → ∀ v, zeu l v ≤ M
  | [], _, v => by simpa [zeu] using hM
  | q :: l, h, v => by
    simp only [zeu]
    split
    · exact h q (List.mem_cons_self ..)
    · exact zai2 hM (fun q hq => h q (List.mem_cons_of_mem _ hq)) v
theorem zai3 {M : Int} : ∀ {d : List Power} {v n : Int}, n ≤ M → (∀ q, q ∈ d → q.N ≤ M) → zad2 d v n ≤ M
  | [], v, n, hn, _ => hn
  | q :: d, v, n, hn, h => by
    show zad2 d v (if q.V = v then q.N else n) ≤ M
    refine zai3 ?_ (fun q hq => h q (List.mem_cons_of_mem _ hq))
    split
    · exact h q (List.mem_cons_self ..)
    · exact hn
theorem zard {a d : List Power} (ha : zab 1 (-1) a = true) (hd : zab 0 (-1) d = true) : zab 1 (-1) (z7l a d) = true :=
  zaq2 fun v => zai3 (zai2 (by omega) (fun q hq => (zqr (by omega) ha (by omega) q hq).2.2.2) _) (fun q hq => (zqr (by omega) hd (by omega) q hq).2.2.2)
structure zakp (c : zb) : Prop where
  set : zab 1 (-1) c.Set = true
  ripes : c.Ripes.all zo2 = true
  id0 : 0 ≤ c.Id
  id1 : c.Id ≤ 1099511627776
theorem zan3 {now : Int} (hn : 0 ≤ now ∧ now ≤ 1099511627776) {c : zb} (h : zakp c) {p : Packet} (hp : zpo p = true) : zakp (zuw now c p) := by
  rw [z5z]
  obtain ⟨g1, g2, _⟩ := z74 (l := [p]) (by simp [hp]) p (by simp)
  have f := zqs g1
  refine ⟨zard h.set f.2.2.2.2.2.2.2.2.1, ?_, by show 0 ≤ p.Id; omega, f.2.2.2.1⟩
  show (c.Ripes ++ [(⟨p.Id, IntKind.i64.wrap (now + 15)⟩ : Ripe)]).all zo2 = true
  rw [List.all_append, h.ripes]
  have : zo2 (⟨p.Id, IntKind.i64.wrap (now + 15)⟩ : Ripe) = true := by
    unfold zo2
    simp only [Bool.and_eq_true, decide_eq_true_eq]
    rw [zp (by omega) (by omega)]
    exact ⟨⟨f.2.2.1, f.2.2.2.1⟩, by omega⟩
  simp [this]
theorem zaam {now : Int} (hn : 0 ≤ now ∧ now ≤ 1099511627776) : ∀ {l : List Packet} {c : zb}, zakp c → l.all zpo = true → zakp (l.foldl (zuw now) c)
  | [], _, h, _ => h
  | p :: l, c, h, hl => by
    rw [List.all_cons, Bool.and_eq_true] at hl
    exact zaam (c := zuw now c p) hn (zan3 hn h hl.1) hl.2
def matP (r : Ripe) : Packet := ⟨2, r.Id, 0, 0, [], []⟩
def matT (r : Ripe) : ByteArray := txt (zuy (matP r))
theorem zae2 {r : Ripe} (h : zo2 r = true) : zfj (matP r) = 0 := by
  unfold zo2 at h
  simp only [Bool.and_eq_true, decide_eq_true_eq] at h
  exact zank h.1.1 h.1.2
theorem z8i {now : Int} (hn : 0 ≤ now ∧ now ≤ 1099511627776) : ∀ (rs : List Ripe) (c : zb), c.Ripes = rs → zen c.Out → rs.all zo2 = true →
    ∃ k, k ≤ rs.length ∧ ztf now rs c = { c with Ripes := rs.drop k, Out := { c.Out with Said := c.Out.Said ++ (rs.take k).map matT, Due := c.Out.Due ++ List.replicate k (now + 40) } } ∧
      (∀ r, r ∈ rs.take k → r.Due ≤ now) ∧ (k = rs.length ∨ (∃ r, rs[k]? = some r ∧ now < r.Due) ∨ c.Out.Closed = true ∨ 400 ≤ c.Out.Said.length + k) ∧ c.Out.Said.length + k ≤ 400
  | [], c, hr, hg, _ => ⟨0, Nat.le_refl _, by
      show c = { c with Ripes := [], Out := { c.Out with Said := c.Out.Said ++ [], Due := c.Out.Due ++ [] } }
      rw [List.append_nil, List.append_nil, ← hr], by simp, .inl rfl, by have : c.Out.Said.length ≤ 400 := hg.2.1; omega⟩
  | r :: rs, c, hr, hg, ha => by
    have h400 : c.Out.Said.length ≤ 400 := hg.2.1
    rw [List.all_cons, Bool.and_eq_true] at ha
    have hstop : (r.Due ≤ now → c.Out.Closed = true ∨ 400 ≤ c.Out.Said.length) → ztf now (r :: rs) c = c → ∃ k, k ≤ (r :: rs).length ∧ ztf now (r :: rs) c = { c with Ripes := (r :: rs).drop k, Out := { c.Out with Said := c.Out.Said ++ ((r :: rs).take k).map matT, Due := c.Out.Due ++ List.replicate k (now + 40) } } ∧
        (∀ q, q ∈ (r :: rs).take k → q.Due ≤ now) ∧ (k = (r :: rs).length ∨ (∃ q, (r :: rs)[k]? = some q ∧ now < q.Due) ∨ c.Out.Closed = true ∨ 400 ≤ c.Out.Said.length + k) ∧ c.Out.Said.length + k ≤ 400 := by
      intro h1 h2
      refine ⟨0, Nat.zero_le _, by rw [h2]; simp [← hr], by simp, ?_, by omega⟩
      by_cases hd : r.Due ≤ now
      · rcases h1 hd with k | k
        · exact .inr (.inr (.inl k))
        · exact .inr (.inr (.inr (by omega)))
      · exact .inr (.inl ⟨r, rfl, by omega⟩)
    by_cases hd : r.Due ≤ now
    · by_cases hc : c.Out.Closed = true ∨ 400 ≤ c.Out.Said.length
      · refine hstop (fun _ => hc) ?_
        have e0 : (zw7 ⟨2, r.Id, 0, 0, [], []⟩ now c).1 ≠ 0 := by
          intro e
          obtain ⟨_, k, _⟩ := zanj e
          obtain ⟨_, _, k1, k2, _⟩ := zagv k
          rcases hc with hc | hc
          · rw [hc] at k1; cases k1
          · omega
        unfold ztf
        rw [if_pos hd, if_pos e0]
      · have hc1 : c.Out.Closed = false := Bool.eq_false_iff.2 (fun h => hc (.inl h))
        have hc2 : c.Out.Said.length < 400 := by have : ¬ 400 ≤ c.Out.Said.length := fun h => hc (.inr h); omega
        have hw : IntKind.i64.wrap (now + 40) = now + 40 := zp (by omega) (by omega)
        have hs := zaq0 (p := matP r) (now := now) (c := c) (zae2 ha.1) hg (by rw [hw]; omega) hc1 hc2
        rw [hw] at hs
        obtain ⟨c', hc'⟩ : ∃ c' : zb, c' = { c with Ripes := rs, Out := { c.Out with Said := c.Out.Said ++ [matT r], Due := c.Out.Due ++ [now + 40] } } := ⟨_, rfl⟩
        have hstep : ztf now (r :: rs) c = ztf now rs c' := by
          have hs' : zw7 ⟨2, r.Id, 0, 0, [], []⟩ now c = _ := hs
          rw [ztf, if_pos hd, hs', if_neg (by simp), hc']
          rfl
        have hg' : zen c'.Out := by rw [hc']; exact zaah hg (by omega) hc2
        obtain ⟨k, k1, k2, k3, k4, k5⟩ := z8i hn rs c' (by rw [hc']) hg' ha.2
        have l1 : c'.Out.Said.length = c.Out.Said.length + 1 := by rw [hc']; simp
        refine ⟨k + 1, by simp only [List.length_cons]; omega, ?_, ?_, ?_, by omega⟩
        · rw [hstep, k2, hc']
          simp only [List.drop_succ_cons, List.take_succ_cons, List.map_cons, List.append_assoc, List.singleton_append, List.replicate_succ]
        · intro q hq
          rw [List.take_succ_cons] at hq
          rcases List.mem_cons.1 hq with rfl | hq
          · exact hd
          · exact k3 q hq
        · rcases k4 with k4 | k4 | k4 | k4
          · exact .inl (by simp only [List.length_cons]; omega)
          · exact .inr (.inl (by simpa using k4))
          · exact .inr (.inr (.inl (by rw [hc'] at k4; exact k4)))
          · exact .inr (.inr (.inr (by omega)))
    · exact hstop (fun h => absurd h hd) (by unfold ztf; rw [if_neg hd])
theorem zakq {l : zbk} (h : zen l) {t : List ByteArray} {n u : Int} (hu : 0 ≤ u) (hl : l.Said.length + t.length ≤ 400) : zen { l with Said := l.Said ++ t, Due := l.Due ++ List.replicate t.length u } := by
  obtain ⟨g1, g2, g3, g4, g5⟩ := h
  refine ⟨by simp [g1], by simp only [List.length_append]; omega, g3, by simp only [List.length_append]; omega, ?_⟩
  simp only [List.any_append, g5, Bool.false_or]
  rw [List.any_eq_false]
  intro x hx
  rw [List.eq_of_mem_replicate hx]
  simp only [decide_eq_true_eq]; omega
theorem z4a {now : Int} {c : zb} (hg : zld c = true) (ho : c.On = true) (ht : c.Time ≤ now ∧ now ≤ 1099511627776) (hh : c.Height + 1 < 1099511627776) :
    (endC now c).2 = 0 ∧ ∃ m k, m = c.Pending.foldl (zuw now) { c with Height := c.Height + 1, Time := now } ∧ zakp m ∧ m.Ripes.length = c.Ripes.length + c.Pending.length ∧ k ≤ m.Ripes.length ∧
      (endC now c).1 = { m with Pending := [], Ripes := m.Ripes.drop k, Out := { c.Out with Said := c.Out.Said ++ (m.Ripes.take k).map matT, Due := c.Out.Due ++ List.replicate k (now + 40) } } ∧
      m.On = c.On ∧ m.Gone = c.Gone ∧ m.Height = c.Height + 1 ∧ m.Time = now ∧ m.Out = c.Out ∧ (∀ r, r ∈ m.Ripes.take k → r.Due ≤ now) ∧
      (k = m.Ripes.length ∨ (∃ r, m.Ripes[k]? = some r ∧ now < r.Due) ∨ c.Out.Closed = true ∨ 400 ≤ c.Out.Said.length + k) ∧ c.Out.Said.length + k ≤ 400 ∧ zld (endC now c).1 = true := by
  obtain ⟨g1, g2, g3, g4, g5⟩ := zce hg
  have hw : IntKind.i64.wrap (c.Height + 1) = c.Height + 1 := zp (by have := g1.2; omega) (by have := g1.2; omega)
  have hn0 : 0 ≤ now := by have := g1.2.2.2.1; omega
  have he := zaq1 (now := now) hg ho ht.1 ht.2
  rw [hw] at he
  obtain ⟨m, hm⟩ : ∃ m, m = c.Pending.foldl (zuw now) { c with Height := c.Height + 1, Time := now } := ⟨_, rfl⟩
  rw [← hm] at he
  have hpm : zakp m := by rw [hm]; exact zaam ⟨hn0, ht.2⟩ ⟨g3, g4, g1.2.2.2.2.2.1, g1.2.2.2.2.2.2⟩ g5
  obtain ⟨f1, f2, f3, f4, f5, f6⟩ := z0n (now := now) c.Pending { c with Height := c.Height + 1, Time := now }
  rw [← hm] at f1 f2 f3 f4 f5 f6
  obtain ⟨k, k1, k2, k3, k4, k5⟩ := z8i (now := now) ⟨hn0, ht.2⟩ m.Ripes { m with Pending := [] } rfl (by show zen m.Out; rw [f2]; exact g2) hpm.ripes
  replace f2 : m.Out = c.Out := f2
  simp only [f2] at k4 k5
  have hfin : (endC now c).1 = { m with Pending := [], Ripes := m.Ripes.drop k, Out := { c.Out with Said := c.Out.Said ++ (m.Ripes.take k).map matT, Due := c.Out.Due ++ List.replicate k (now + 40) } } := by
    rw [he]
    show ztf now m.Ripes { m with Pending := [] } = _
    rw [k2]
    simp only [f2]
  refine ⟨by rw [he], m, k, hm, hpm, f1, k1, hfin, f3, f4, f5, f6, f2, k3, k4, k5, ?_⟩
  rw [hfin]
  have hl : ((m.Ripes.take k).map matT).length = k := by rw [List.length_map, List.length_take]; omega
  refine ztg ⟨by show (m.On && m.Gone) = false; rw [f3, f4]; exact g1.1, by show 0 ≤ m.Height; rw [f5]; show 0 ≤ c.Height + 1; have := g1.2; omega, ?_, by show 0 ≤ m.Time; rw [f6]; exact hn0, by show m.Time ≤ _; rw [f6]; exact ht.2, hpm.id0, hpm.id1⟩ ?_ hpm.set ?_ rfl
  · show m.Height < _; rw [f5]; show c.Height + 1 < _
    exact hh
  · have := zakq (n := 0) g2 (t := (m.Ripes.take k).map matT) (u := now + 40) (by omega) (by rw [hl]; exact k5)
    rw [hl] at this
    exact this
  · show (m.Ripes.drop k).all zo2 = true
    rw [List.all_eq_true]
    intro r hr
    exact List.all_eq_true.1 hpm.ripes r (List.mem_of_mem_drop hr)
end Go.Proofs.YtmakmlnfbdablaaGreat.Ab
namespace Go.Proofs.YtmakmlnfbdablaaGreat.Ab
open Go Go.RowKit
set_option linter.unusedVariables false
set_option linter.unusedSimpArgs false
theorem z8j {w w' : Wld} (h : OkW w) (hd : w.deeds < 600) (e1 : w'.deeds = w.deeds + 1) (e2 : w'.clock = w.clock) (p : GoodX w'.p) (ph : w'.p.Height ≤ w.deeds + 1) (pt : w'.p.Time ≤ w.clock) (pq : ((w'.p.Queue.length : Nat) : Int) ≤ w.deeds + 1)
    {i : Int} (ci : ConsW w' i) (cj : ∀ j : Int, 0 ≤ j ∧ j < 2 → j ≠ i → zc w'.consumers j = zc w.consumers j ∧ SameL w'.p w.p j) : OkW w' := by
  have d0 := h.d0
  refine ⟨by omega, by omega, by rw [e2]; exact h.t0, by rw [e2]; exact h.t1, p, by omega, by omega, by omega, fun j hj => ?_⟩
  by_cases e : j = i
  · rw [e]; exact ci
  · obtain ⟨c1, c2⟩ := cj j hj e
    exact (h.c j hj).more c1 c2 (by omega) (by omega)
theorem zact {w w' : Wld} (h : OkW w) (hd : w.deeds < 600) (e1 : w'.deeds = w.deeds + 1) (e2 : w'.clock = w.clock) (e3 : w'.p = w.p) {i : Int} (hi : 0 ≤ i ∧ i < 2) {c : zb} (hc : w'.consumers = zrw w.consumers i c)
    (good : zld c = true) (height : c.Height ≤ w.deeds + 1) (time : c.Time ≤ w.clock) (size : ((c.Pending.length + c.Ripes.length : Nat) : Int) ≤ w.deeds + 1) (on : c.On = (zc w.consumers i).On) (gone : c.Gone = (zc w.consumers i).Gone)
    (said : ∀ s, s ∈ c.Out.Said → PkB s) (ho : (zc w.consumers i).On = true) : OkW w' := by
  have hw := h.c i hi
  have hci : zc w'.consumers i = c := by rw [hc, znh hi]
  refine z8j (i := i) h hd e1 e2 (by rw [e3]; exact h.p) (by rw [e3]; have := h.ph; omega) (by rw [e3]; exact h.pt) (by rw [e3]; have := h.pq; omega) ?_ fun j hj hji => ⟨by rw [hc, zla hi hj hji], by rw [e3]; exact .refl _ _⟩
  have on' : w.p.Links.On.get i = true := by rw [← hw.on]; exact ho
  refine ⟨by rw [hci]; exact good, by rw [hci, e1]; exact height, by rw [hci, e2]; exact time, by rw [hci, e1]; exact size, by rw [hci, e3, on]; exact hw.on, by rw [hci, e3, gone]; exact hw.gone, by rw [e3]; exact hw.told, by rw [hci]; exact said, fun k => ?_⟩
  rw [e3, on'] at k; cases k
theorem zan4 {a b : ByteArray} (h : a.toList = b.toList) : a = b := by
  rw [ByteArray.toList_eq, ByteArray.toList_eq] at h
  obtain ⟨⟨a⟩⟩ := a
  obtain ⟨⟨b⟩⟩ := b
  simp only at h
  rw [h]
theorem zav8 {r : Ripe} (h : zo2 r = true) : PkB (matT r) := ⟨matP r, zae2 h, by unfold matP; simp, rfl⟩
theorem zag7 {w : Wld} (h : OkW w) (hd : w.deeds < 600) {i : Int} (hi : 0 ≤ i ∧ i < 2) (ho : (zc w.consumers i).On = true) : OkW (zwg (zal w) i).1 := by
  have hc := h.c i hi
  have h1 := h.t1
  have hh := hc.height
  obtain ⟨e0, m, k, hm, hpm, hl, hk, hf, f1, f2, f3, f4, f5, f6, f7, f8, hg⟩ := z4a hc.good ho ⟨hc.time, by omega⟩ (by omega)
  unfold zwg
  rw [if_neg (by show ¬ (endC w.clock (zc w.consumers i)).2 ≠ 0; rw [e0]; simp)]
  refine zact h hd rfl rfl rfl hi (c := (endC w.clock (zc w.consumers i)).1) rfl hg ?_ ?_ ?_ ?_ ?_ ?_ ho
  all_goals rw [hf]
  · show m.Height ≤ _; rw [f3]; omega
  · show m.Time ≤ _; rw [f4]; omega
  · have := hc.size
    simp only [List.length_nil, List.length_drop]
    omega
  · exact f1
  · exact f2
  · intro s hs
    rcases List.mem_append.1 hs with hs | hs
    · exact hc.said s hs
    · obtain ⟨r, hr, rfl⟩ := List.mem_map.1 hs
      exact zav8 (List.all_eq_true.1 hpm.ripes r (List.mem_of_mem_take hr))
theorem z8k {c : zb} (hg : zld c = true) {q : Packet} (hq : q.Kind ≠ 1) {now : Int} (h : (zw7 q now c).1 = 0) :
    zfj q = 0 ∧ 0 ≤ IntKind.i64.wrap (now + 40) ∧ c.Out.Closed = false ∧ c.Out.Said.length < 400 ∧ (zw7 q now c).2 = { c with Out := { c.Out with Said := c.Out.Said ++ [txt (zuy q)], Due := c.Out.Due ++ [IntKind.i64.wrap (now + 40)] } } ∧ zld (zw7 q now c).2 = true := by
  obtain ⟨k1, k2, k3⟩ := zanj h
  obtain ⟨l1, l2, l3, l4, _⟩ := zagv k2
  obtain ⟨g1, g2, g3, g4, g5⟩ := zce hg
  refine ⟨k1, l2, l3, l4, by rw [k3], ?_⟩
  rw [k3]
  exact ztg g1 (zaah l1 l2 l4) g3 g4 g5
theorem zan5 {w w' : Wld} (h : OkW w) (hd : w.deeds < 600) (e1 : w'.deeds = w.deeds + 1) (e2 : w'.clock = w.clock) (e3 : w'.p = w.p) {i : Int} (hi : 0 ≤ i ∧ i < 2) (ho : (zc w.consumers i).On = true) {q : Packet} (hq : q.Kind ≠ 1) (hs : (zw7 q w.clock (zc w.consumers i)).1 = 0) {f : A6 Bool}
    (hc : w'.consumers = zrw w.consumers i { (zw7 q w.clock (zc w.consumers i)).2 with Flags := f }) : OkW w' := by
  have hw := h.c i hi
  obtain ⟨s1, s2, s3, s4, s5, s6⟩ := z8k hw.good hq hs
  obtain ⟨g1, g2, g3, g4, g5⟩ := zce s6
  have hz := hw.size; have hh := hw.height; have ht := hw.time
  refine zact h hd e1 e2 e3 hi hc (ztg g1 g2 g3 g4 g5) ?_ ?_ ?_ ?_ ?_ ?_ ho
  all_goals rw [s5]
  · show (zc w.consumers i).Height ≤ _; omega
  · exact ht
  · show (((zc w.consumers i).Pending.length + (zc w.consumers i).Ripes.length : Nat) : Int) ≤ _; omega
  · intro s hs
    rcases List.mem_append.1 hs with hs | hs
    · exact hw.said s hs
    · rw [List.mem_singleton.1 hs]; exact ⟨q, s1, hq, rfl⟩
theorem zai4 {w : Wld} (h : OkW w) (hd : w.deeds < 600) {i : Int} {r : zb × Int} (hr : r.2 = 0 → OkW { zal w with consumers := zrw w.consumers i r.1 }) : OkW (putW (zal w) i r).1 := by
  unfold putW
  by_cases e : r.2 = 0
  · rw [if_neg (by simpa using e)]; exact hr e
  · rw [if_pos e]; exact zkl h hd
theorem zare {w : Wld} (h : OkW w) (hd : w.deeds < 600) {i : Int} (hi : 0 ≤ i ∧ i < 2) (ho : (zc w.consumers i).On = true) (v : Int) : OkW (putW (zal w) i (z75 (zc w.consumers i) v w.clock)).1 := by
  refine zai4 h hd fun h0 => ?_
  obtain ⟨_, _, _, _, _, _, _, hs, he⟩ := zain h0
  rw [he]
  exact zan5 h hd rfl rfl rfl hi ho (by simp) hs rfl
theorem zakr {w : Wld} (h : OkW w) (hd : w.deeds < 600) {i : Int} (hi : 0 ≤ i ∧ i < 2) (ho : (zc w.consumers i).On = true) (v n : Int) : OkW (putW (zal w) i (ztu (zc w.consumers i) v n w.clock)).1 := by
  refine zai4 h hd fun h0 => ?_
  unfold ztu at h0 ⊢
  by_cases h1 : zld (zc w.consumers i) = false ∨ w.clock < 0 ∨ 1099511627776 < w.clock
  · rw [if_pos h1] at h0; cases h0
  rw [if_neg h1] at h0 ⊢
  by_cases h2 : (zc w.consumers i).On = false ∨ v < 0 ∨ 5 < v
  · rw [if_pos h2] at h0; cases h0
  rw [if_neg h2] at h0 ⊢
  by_cases h3 : n < 1 ∨ (zc w.consumers i).Id < n
  · rw [if_pos h3] at h0; cases h0
  rw [if_neg h3] at h0 ⊢
  exact zan5 h hd rfl rfl rfl hi ho (q := ⟨4, n, v, maxC (zc w.consumers i) v, [], []⟩) (by simp) h0 (f := (zw7 ⟨4, n, v, maxC (zc w.consumers i) v, [], []⟩ w.clock (zc w.consumers i)).2.Flags) rfl
theorem zaks {p : za} (h : GoodX p) {i : Int} (hi : 0 ≤ i ∧ i < 2) {l : zbk} (hl : zen l) : GoodX { p with Links := z0q p.Links i l } := by
  have hlk : ∀ j : Int, 0 ≤ j ∧ j < 2 → LkX { p with Links := z0q p.Links i l } j := by
    intro j hj
    obtain ⟨a1, a2, a3, a4, a5, a6⟩ := h.lk hj
    refine ⟨a1, a2, a3, a4, ?_, a6⟩
    rw [zrv, zux hi hj]
    split
    · exact hl
    · exact a5
  exact ⟨h.1, h.2.1, h.2.2.1, okLk_iff.2 (hlk 0 (by omega)), okLk_iff.2 (hlk 1 (by omega)), h.2.2.2.2.2⟩
theorem zakt {p : za} (h : GoodX p) (i : Int) (s : z9i) : GoodX { p with Links := z1h p.Links i s } := by
  have hlk : ∀ j : Int, 0 ≤ j ∧ j < 2 → LkX { p with Links := z1h p.Links i s } j := by
    intro j hj
    obtain ⟨a1, a2, a3, a4, a5, a6⟩ := h.lk hj
    exact ⟨a1, a2, a3, a4, a5, a6⟩
  exact ⟨h.1, h.2.1, h.2.2.1, okLk_iff.2 (hlk 0 (by omega)), okLk_iff.2 (hlk 1 (by omega)), h.2.2.2.2.2⟩
theorem zan6 {w : Wld} (h : OkW w) (hd : w.deeds < 600) {i : Int} (hi : 0 ≤ i ∧ i < 2) (ho : (zc w.consumers i).On = true) (back : Bool) : OkW (z8e (zal w) i back).1 := by
  unfold z8e
  have hw := h.c i hi
  cases back with
  | true =>
    rw [if_pos rfl]
    refine zacs (zkl h hd) (zakt h.p i _) rfl rfl rfl fun j hj => ⟨rfl, rfl, ?_⟩
    rfl
  | false =>
    rw [if_neg (by simp)]
    obtain ⟨g1, g2, g3, g4, g5⟩ := zce hw.good
    have hz := hw.size; have hh := hw.height
    exact zact h hd rfl rfl rfl hi rfl (ztg g1 g2 g3 g4 g5) (by show (zc w.consumers i).Height ≤ _; omega) hw.time (by show (((zc w.consumers i).Pending.length + (zc w.consumers i).Ripes.length : Nat) : Int) ≤ _; omega) rfl rfl hw.said ho
theorem z4b {w : Wld} {d : Deed} (h : (zni w d).2 = 0) : zen (zcm w d.C d.Back) ∧ (zcm w d.C d.Back).Closed = false ∧ (zcm w d.C d.Back).Got + 1 ≤ ((zcm w d.C d.Back).Said.length : Int) ∧ (zcm w d.C d.Back).Got + 1 ≤ zacq w d.C d.Back ∧
    zkz (zcm w d.C d.Back) d.Forged = (zcm w d.C d.Back).Said.getD (zcm w d.C d.Back).Got.toNat .empty ∧ w.clock < (zcm w d.C d.Back).Due.getD (zcm w d.C d.Back).Got.toNat 0 ∧
    (zni w d).1 = { zcm w d.C d.Back with Got := (zcm w d.C d.Back).Got + 1 } ∧ zen (zni w d).1 := by
  have hs : (zcm w d.C d.Back).Got + 1 ≤ zacq w d.C d.Back := by
    unfold zni zqm at h
    by_cases h1 : ¬ zen (zcm w d.C d.Back)
    · rw [if_pos h1] at h; cases h
    rw [if_neg h1] at h
    have hl := Classical.not_not.1 h1
    have e4 : (zcm w d.C d.Back).Said.length ≤ 400 := hl.2.1
    have hw : IntKind.i64.wrap ((zcm w d.C d.Back).Got + 1) = (zcm w d.C d.Back).Got + 1 := zp (by have := hl.2.2.1; omega) (by have := hl.2.2.2.1; omega)
    rw [hw] at h
    by_cases h2 : (zcm w d.C d.Back).Closed = true
    · rw [if_pos h2] at h; cases h
    rw [if_neg h2, if_neg (by simp)] at h
    by_cases h3 : zacq w d.C d.Back < (zcm w d.C d.Back).Got + 1 ∨ ((zcm w d.C d.Back).Said.length : Int) < (zcm w d.C d.Back).Got + 1 ∨ ((zcm w d.C d.Back).Said.getD (zcm w d.C d.Back).Got.toNat .empty).toList ≠ (zkz (zcm w d.C d.Back) d.Forged).toList
    · rw [if_pos h3] at h; cases h
    · simp only [not_or] at h3; omega
  obtain ⟨h1, h2, h3, h4, h5, h6, h7⟩ := zaju h
  have e4 : (zcm w d.C d.Back).Said.length ≤ 400 := h1.2.1
  have hw : IntKind.i64.wrap ((zcm w d.C d.Back).Got + 1) = (zcm w d.C d.Back).Got + 1 := zp (by have := h1.2.2.1; omega) (by have := h1.2.2.2.1; omega)
  rw [hw] at h4
  have he : (zni w d).1 = { zcm w d.C d.Back with Got := (zcm w d.C d.Back).Got + 1 } := by
    unfold zni
    rw [h7, hw]
  refine ⟨h1, Bool.eq_false_iff.2 h2, h4, hs, ?_, h6, he, ?_⟩
  · exact (zan4 h5).symm
  · rw [he]
    obtain ⟨g1, g2, g3, g4, g5⟩ := h1
    exact ⟨g1, g2, by show 0 ≤ (zcm w d.C d.Back).Got + 1; omega, h4, g5⟩
end Go.Proofs.YtmakmlnfbdablaaGreat.Ab
namespace Go.Proofs.YtmakmlnfbdablaaGreat.Ab
open Go Go.RowKit
set_option linter.unusedVariables false
set_option linter.unusedSimpArgs false
theorem z8l {c : zb} (hg : zld c = true) {s : List UInt8} (h : (zyq c s).2 = 0) : c.On = true ∧ zfj (zbf s).1 = 0 ∧ (zbf s).1.Kind = 1 ∧ (zbf s).2 = 0 ∧ (zyq c s).1 = { c with Pending := c.Pending ++ [(zbf s).1] } ∧ zld (zyq c s).1 = true := by
  unfold zyq at h ⊢
  rw [if_neg (by rw [hg]; simp)] at h ⊢
  by_cases h1 : c.On = false
  · rw [if_pos h1] at h; cases h
  rw [if_neg h1] at h ⊢
  by_cases h2 : (zbf s).2 = 0
  · rw [if_neg (by simpa using h2)] at h ⊢
    by_cases h3 : (zbf s).1.Kind = 1
    · rw [if_neg (by simpa using h3)]
      have gp := zaiy h2
      refine ⟨by simpa using h1, gp, h3, h2, rfl, ?_⟩
      obtain ⟨g1, g2, g3, g4, g5⟩ := zce hg
      refine ztg g1 g2 g3 g4 ?_
      show (c.Pending ++ [(zbf s).1]).all zpo = true
      rw [List.all_append, g5]
      simp [zpo, gp, h3]
    · rw [if_pos h3] at h; cases h
  · rw [if_pos h2] at h; exact absurd h h2
theorem z5c {p : za} (hg : zav p = true) {i : Int} {s : List UInt8} (h : (zpp p i s).2 = 0) : (0 ≤ i ∧ i < 2) ∧ p.Links.On.get i = true ∧ zfj (zbf s).1 = 0 ∧ (zbf s).1.Kind ≠ 1 ∧ (zbf s).2 = 0 ∧ (zpp p i s).1 = { p with Queue := p.Queue ++ [⟨i, (zbf s).1⟩] } ∧ GoodX (zpp p i s).1 := by
  unfold zpp at h ⊢
  rw [if_neg (by rw [hg]; simp)] at h ⊢
  by_cases h1 : (0 ≤ i ∧ i < 2) ∧ p.Links.On.get i = true
  · rw [if_pos h1] at h ⊢
    by_cases h2 : (zbf s).2 = 0
    · rw [if_neg (by simpa using h2)] at h ⊢
      by_cases h3 : (zbf s).1.Kind = 1
      · rw [if_pos h3] at h; cases h
      · rw [if_neg h3]
        have gp := zaiy h2
        have hx := (goodPr_iff.1 hg).1
        refine ⟨h1.1, h1.2, gp, h3, h2, rfl, hx.1, hx.2.1, hx.2.2.1, hx.2.2.2.1, hx.2.2.2.2.1, ?_⟩
        show (p.Queue ++ [_]).all _ = true
        rw [List.all_append, Bool.and_eq_true]
        refine ⟨hx.2.2.2.2.2, List.all_eq_true.2 fun b hb => ?_⟩
        rw [List.mem_singleton.1 hb]
        exact ask_iff.2 ⟨h1.1, h1.2, gp, h3⟩
    · rw [if_pos h2] at h; exact absurd h h2
  · rw [if_neg h1] at h; cases h
theorem zag8 {w : Wld} (h : OkW w) (hd : w.deeds < 600) {d : Deed} (hi : 0 ≤ d.C ∧ d.C < 2) (ho : (zc w.consumers d.C).On = true) : OkW (zoe (zal w) d).1 := by
  have hw := h.c d.C hi
  unfold zoe
  by_cases h0 : (zni w d).2 = 0
  · rw [if_neg (by show ¬ (zni w d).2 ≠ 0; simpa using h0)]
    obtain ⟨f1, f2, f3, f4, f5, f6, f7, f8⟩ := z4b h0
    cases hb : d.Back with
    | true =>
      rw [if_pos rfl]
      rw [hb] at f5
      have e0 : zcm w d.C true = (zc w.consumers d.C).Out := rfl
      by_cases h1 : (zpp w.p d.C (zkz (zcm w d.C true) d.Forged).data.toList).2 = 0
      · rw [if_neg (by show ¬ (zpp w.p d.C (zkz (zcm w d.C true) d.Forged).data.toList).2 ≠ 0; simpa using h1)]
        obtain ⟨q1, q2, q3, q4, q5, q6, q7⟩ := z5c h.pr h1
        obtain ⟨g1, g2, g3, g4, g5⟩ := zce hw.good
        have hz := hw.size; have hh := hw.height; have hp := h.ph; have hq := h.pq
        have hr : (zni w d).1 = { (zc w.consumers d.C).Out with Got := (zc w.consumers d.C).Out.Got + 1 } := by rw [f7, hb]; rfl
        have e6 : (zpp (zal w).p d.C (zkz (zcm (zal w) d.C true) d.Forged).data.toList).1 = { w.p with Queue := w.p.Queue ++ [⟨d.C, (zbf (zkz (zcm w d.C true) d.Forged).data.toList).1⟩] } := q6
        simp only [e6]
        refine z8j (i := d.C) h hd rfl rfl (by rw [← q6]; exact q7) (by show w.p.Height ≤ _; omega) h.pt (by show (((w.p.Queue ++ [_]).length : Nat) : Int) ≤ _; rw [List.length_append, List.length_singleton]; omega) ?_ fun j hj hji => ⟨zla hi hj hji _, rfl, rfl, rfl⟩
        have hci : zc (zrw (zal w).consumers d.C { zc (zal w).consumers d.C with Out := (zni (zal w) d).1 }) d.C = { zc w.consumers d.C with Out := (zni w d).1 } := znh hi _
        refine ⟨?_, ?_, ?_, ?_, ?_, ?_, hw.told, ?_, fun k => ?_⟩
        · rw [hci]; exact ztg g1 f8 g3 g4 g5
        · rw [hci]; show (zc w.consumers d.C).Height ≤ w.deeds + 1; omega
        · rw [hci]; exact hw.time
        · rw [hci]; show (((zc w.consumers d.C).Pending.length + (zc w.consumers d.C).Ripes.length : Nat) : Int) ≤ w.deeds + 1; omega
        · rw [hci]; exact hw.on
        · rw [hci]; exact hw.gone
        · rw [hci]; show ∀ s, s ∈ (zni w d).1.Said → PkB s; rw [hr]; exact hw.said
        · have k' : w.p.Links.On.get d.C = false := k
          rw [q2] at k'; cases k'
      · rw [if_pos (by exact h1)]; exact zkl h hd
    | false =>
      rw [if_neg (by simp)]
      rw [hb] at f5
      by_cases h1 : (zyq (zc w.consumers d.C) (zkz (zcm w d.C false) d.Forged).data.toList).2 = 0
      · rw [if_neg (by show ¬ (zyq (zc w.consumers d.C) (zkz (zcm w d.C false) d.Forged).data.toList).2 ≠ 0; simpa using h1)]
        obtain ⟨q1, q2, q3, q4, q5, q6⟩ := z8l hw.good h1
        have hz := hw.size; have hh := hw.height; have hp := h.ph; have hq := h.pq
        have hr : (zni w d).1 = { (zk w.p.Links d.C).Out with Got := (zk w.p.Links d.C).Out.Got + 1 } := by rw [f7, hb]; rfl
        have on' : w.p.Links.On.get d.C = true := by rw [← hw.on]; exact ho
        refine z8j (i := d.C) h hd rfl rfl (zaks h.p hi f8) (by show w.p.Height ≤ _; omega) h.pt (by show ((w.p.Queue.length : Nat) : Int) ≤ _; omega) ?_ fun j hj hji => ⟨zla hi hj hji _, rfl, rfl, ?_⟩
        · have hci : zc (zrw (zal w).consumers d.C (zyq (zc (zal w).consumers d.C) (zkz (zcm (zal w) d.C false) d.Forged).data.toList).1) d.C = (zyq (zc w.consumers d.C) (zkz (zcm w d.C false) d.Forged).data.toList).1 := znh hi _
          refine ⟨?_, ?_, ?_, ?_, ?_, ?_, ?_, ?_, fun k => ?_⟩
          · rw [hci]; exact q6
          · rw [hci, q5]; show (zc w.consumers d.C).Height ≤ w.deeds + 1; omega
          · rw [hci, q5]; exact hw.time
          · rw [hci, q5]
            show ((((zc w.consumers d.C).Pending ++ [_]).length + (zc w.consumers d.C).Ripes.length : Nat) : Int) ≤ w.deeds + 1
            rw [List.length_append, List.length_singleton]; omega
          · rw [hci, q5]; exact hw.on
          · rw [hci, q5]; exact hw.gone
          · show ∀ s, s ∈ (zk (z0q w.p.Links d.C (zni w d).1) d.C).Out.Said → Pk1 s
            rw [zux hi hi, if_pos rfl, hr]; exact hw.told
          · rw [hci, q5]; exact hw.said
          · have k' : w.p.Links.On.get d.C = false := k
            rw [on'] at k'; cases k'
        · show (zk (z0q w.p.Links d.C (zni w d).1) j).Out.Said = _
          rw [zux hi hj, if_neg hji]
      · rw [if_pos (by exact h1)]; exact zkl h hd
  · rw [if_pos (by exact h0)]; exact zkl h hd
theorem zag9 {w : Wld} (h : OkW w) (hd : w.deeds < 600) : OkW (zmp (zal w)).1 := by
  have ht : zav w.p = true ∧ w.p.Time ≤ w.clock ∧ w.clock ≤ 1099511627776 := ⟨h.pr, h.pt, by have := h.t1; omega⟩
  unfold zmp
  rw [if_neg (by show ¬ (zo3 w.p w.clock).2.2 ≠ 0; rw [zan0 ht]; simp)]
  obtain ⟨r1, r2, r3, r4, r5, r6, r7, r8⟩ := zara ht
  obtain ⟨S, D, M, e, hS, hdn, hl, hm⟩ := z52 ht.1 w.clock
  have hg := zaq9 ht.1 ht.2
  have hp := h.ph; have hq := h.pq; have d0 := h.d0
  refine ⟨by show 0 ≤ w.deeds + 1; omega, by show w.deeds + 1 ≤ 600; omega, h.t0, h.t1, hg, by show (zo3 w.p w.clock).1.Height ≤ w.deeds + 1; rw [r1]; omega, by show (zo3 w.p w.clock).1.Time ≤ w.clock; rw [r2]; exact Int.le_refl _, by show (((zo3 w.p w.clock).1.Queue.length : Nat) : Int) ≤ w.deeds + 1; rw [r5]; omega, fun i hi => ?_⟩
  obtain ⟨D', -, hD⟩ := zai0 ht hi
  have hw := h.c i hi
  have hz := hw.size; have hh := hw.height
  have o1 : (zo3 w.p w.clock).1.Links.On.get i = w.p.Links.On.get i := by rw [r6]
  have o2 : (zo3 w.p w.clock).1.Links.Gone.get i = w.p.Links.Gone.get i := by rw [r7]
  refine ⟨hw.good, by show (zc w.consumers i).Height ≤ w.deeds + 1; omega, hw.time, by show (((zc w.consumers i).Pending.length + (zc w.consumers i).Ripes.length : Nat) : Int) ≤ w.deeds + 1; omega, hw.on.trans o1.symm, hw.gone.trans o2.symm, ?_, hw.said, ?_⟩
  · show ∀ s, s ∈ (zk (zo3 w.p w.clock).1.Links i).Out.Said → Pk1 s
    rw [← zrv]
    rcases hD with ⟨-, -, -, e4, -⟩ | ⟨-, -, -, -, -, -, -, e8, e9⟩
    · rw [e4]; exact hw.told
    · rw [e9]
      intro s hs
      rcases List.mem_append.1 hs with hs | hs
      · exact hw.told s hs
      · rw [List.mem_singleton.1 hs]; exact ⟨_, e8, rfl, rfl⟩
  · intro k1 k2
    have k1' : w.p.Links.On.get i = false := o1.symm.trans k1
    obtain ⟨c1, c2⟩ := hw.fresh k1' (o2.symm.trans k2)
    refine ⟨c1, ?_⟩
    show (zk (zo3 w.p w.clock).1.Links i).Out.Said = []
    rw [← zrv]
    rcases hD with ⟨-, -, -, e4, -⟩ | ⟨-, -, -, e4, -⟩
    · rw [e4]; exact c2
    · rw [k1'] at e4; cases e4
theorem zth {L : Links} {i j H : Int} {T : List Power} {f : Bool} (hi : 0 ≤ i ∧ i < 2) (hj : 0 ≤ j ∧ j < 2) : zk (zif L i H T f) j = if j = i then ⟨true, false, H, T, f, [], ⟨[], [], 0, false⟩, ⟨0, 0, 0, 0⟩⟩ else zk L j := by
  unfold zk zif
  simp only [zam _ _ hi hj]
  by_cases e : j = i
  · simp only [if_pos e]
  · simp only [if_neg e]
theorem z1i {p : za} {i : Int} (h : (zev p i).2 = 0) : zav p = true ∧ (0 ≤ i ∧ i < 2) ∧ p.Links.Gone.get i = false ∧ p.Links.On.get i = false ∧ 1 ≤ p.Height ∧ p.Set.length ≠ 0 ∧ (zev p i).1 = zpq p i (p.Stake.Waits.map (zj4 i p.Height)) (z0p p) := by
  unfold zev at h ⊢
  cases hg : zav p with
  | false => rw [if_pos hg] at h; cases h
  | true =>
    rw [if_neg (by rw [hg]; simp)] at h
    rw [if_neg (by simp)]
    by_cases hi : 0 ≤ i ∧ i < 2
    · rw [if_pos hi] at h ⊢
      by_cases h1 : p.Links.Gone.get i = true
      · rw [if_pos h1] at h; cases h
      rw [if_neg h1] at h ⊢
      by_cases h2 : p.Links.On.get i = true
      · rw [if_pos h2] at h; cases h
      rw [if_neg h2] at h ⊢
      by_cases h3 : p.Height < 1 ∨ p.Set.length = 0
      · rw [if_pos h3] at h; cases h
      rw [if_neg h3]
      simp only [not_or] at h3
      exact ⟨rfl, hi, Bool.eq_false_iff.2 h1, Bool.eq_false_iff.2 h2, by omega, h3.2, rfl⟩
    · rw [if_neg hi] at h; cases h
theorem zaku {p : za} (hx : GoodX p) {i : Int} (hi : 0 ≤ i ∧ i < 2) (ho : p.Links.On.get i = false) : GoodX (zpq p i (p.Stake.Waits.map (zj4 i p.Height)) (z0p p)) := by
  obtain ⟨b1, b2, b3, b4, b5, b6, b7⟩ := hx.1
  have hf : ∀ w, (zj4 i p.Height w).Number = w.Number ∧ (zj4 i p.Height w).D = w.D ∧ (zj4 i p.Height w).V = w.V ∧ (zj4 i p.Height w).Amount = w.Amount ∧ (zj4 i p.Height w).Height = w.Height ∧ (zj4 i p.Height w).Due = w.Due := by
    intro w; unfold zj4; split <;> exact ⟨rfl, rfl, rfl, rfl, rfl, rfl⟩
  have gs : GoodS { p.Stake with Waits := p.Stake.Waits.map (zj4 i p.Height) } := by
    refine ⟨b1, ⟨b2.1, b2.2.1, by show (p.Stake.Waits.map _).length ≤ 60; rw [List.length_map]; exact b2.2.2⟩, b3, zzj (fun w hw => ⟨(hf w).1, (hf w).2.1, (hf w).2.2.1, by rw [(hf w).2.2.2.1]; exact hw, (hf w).2.2.2.2.1, (hf w).2.2.2.2.2⟩) b4, b5, ?_, b7⟩
    show ztx (p.Stake.Waits.map _) = _
    rw [zacl (fun w => (hf w).2.2.2.1)]; exact b6
  have hlk : ∀ j : Int, 0 ≤ j ∧ j < 2 → LkX (zpq p i (p.Stake.Waits.map (zj4 i p.Height)) (z0p p)) j := by
    intro j hj
    obtain ⟨a1, a2, a3, a4, a5, a6⟩ := hx.lk hj
    have el := zth (L := p.Links) (H := p.Height) (T := p.Set) (f := z0p p) hi hj
    by_cases e : j = i
    · rw [if_pos e] at el
      have z := hx.2.1.1
      exact ⟨by show ¬ ((zk (zif p.Links i p.Height p.Set (z0p p)) j).On = true ∧ (zk (zif p.Links i p.Height p.Set (z0p p)) j).Gone = true); rw [el]; simp, by show 0 ≤ (zk (zif p.Links i p.Height p.Set (z0p p)) j).Base; rw [el]; exact z,
        by show (zk (zif p.Links i p.Height p.Set (z0p p)) j).Base ≤ p.Height; rw [el]; exact Int.le_refl _, by show zab 1 (-1) (zk (zif p.Links i p.Height p.Set (z0p p)) j).Told = true; rw [el]; exact hx.2.2.1,
        by show zen (zk (zif p.Links i p.Height p.Set (z0p p)) j).Out; rw [el]; exact z76, by show zau (-1) (zk (zif p.Links i p.Height p.Set (z0p p)) j).Done = true; rw [el]; rfl⟩
    · rw [if_neg e] at el
      exact ⟨by show ¬ ((zk (zif p.Links i p.Height p.Set (z0p p)) j).On = true ∧ (zk (zif p.Links i p.Height p.Set (z0p p)) j).Gone = true); rw [el]; exact a1, by show 0 ≤ (zk (zif p.Links i p.Height p.Set (z0p p)) j).Base; rw [el]; exact a2,
        by show (zk (zif p.Links i p.Height p.Set (z0p p)) j).Base ≤ p.Height; rw [el]; exact a3, by show zab 1 (-1) (zk (zif p.Links i p.Height p.Set (z0p p)) j).Told = true; rw [el]; exact a4,
        by show zen (zk (zif p.Links i p.Height p.Set (z0p p)) j).Out; rw [el]; exact a5, by show zau (-1) (zk (zif p.Links i p.Height p.Set (z0p p)) j).Done = true; rw [el]; exact a6⟩
  refine ⟨gs, hx.2.1, hx.2.2.1, okLk_iff.2 (hlk 0 (by omega)), okLk_iff.2 (hlk 1 (by omega)), List.all_eq_true.2 fun b hb => ask_iff.2 ?_⟩
  obtain ⟨q1, q2, q3, q4⟩ := hx.ask hb
  refine ⟨q1, ?_, q3, q4⟩
  show (p.Links.On.set i true).get b.C = true
  rw [zam _ _ hi q1]
  split
  · rfl
  · exact q2
theorem zan7 {w : Wld} (h : OkW w) (hd : w.deeds < 600) (i : Int) : OkW (z3i (zal w) i).1 := by
  unfold z3i
  by_cases h0 : (zev w.p i).2 = 0
  · rw [if_neg (by show ¬ (zev w.p i).2 ≠ 0; simpa using h0)]
    obtain ⟨f1, hi, f3, f4, f5, f6, f7⟩ := z1i h0
    have hgb := zaku h.p hi f4
    have hp := h.ph; have hq := h.pq; have d0 := h.d0; have d1 := h.d1
    have e6 : (zev (zal w).p i).1 = zpq w.p i (w.p.Stake.Waits.map (zj4 i w.p.Height)) (z0p w.p) := f7
    simp only [e6]
    refine z8j (i := i) h hd rfl rfl hgb (by show w.p.Height ≤ _; omega) h.pt (by show ((w.p.Queue.length : Nat) : Int) ≤ _; omega) ?_ fun j hj hji => ⟨zla hi hj hji _, .of ?_⟩
    · have hci : zc (zrw (zal w).consumers i (zuv w.p.Set w.p.Height w.clock)) i = zuv w.p.Set w.p.Height w.clock := znh hi _
      have el := zth (L := w.p.Links) (H := w.p.Height) (T := w.p.Set) (f := z0p w.p) hi hi
      rw [if_pos rfl] at el
      have t0 := h.t0; have t1 := h.t1; have z := h.p.2.1.1
      refine ⟨?_, ?_, ?_, ?_, ?_, ?_, ?_, ?_, fun k => ?_⟩
      · show zld (zc (zrw (zal w).consumers i (zuv w.p.Set w.p.Height w.clock)) i) = true
        rw [hci]
        exact ztg ⟨rfl, by show (0 : Int) ≤ 0; omega, by show (0 : Int) < _; omega, t0, by show w.clock ≤ _; omega, z, by show w.p.Height ≤ _; omega⟩ z76 h.p.2.2.1 rfl rfl
      · show (zc (zrw (zal w).consumers i (zuv w.p.Set w.p.Height w.clock)) i).Height ≤ w.deeds + 1
        rw [hci]; show (0 : Int) ≤ _; omega
      · show (zc (zrw (zal w).consumers i (zuv w.p.Set w.p.Height w.clock)) i).Time ≤ w.clock
        rw [hci]; exact Int.le_refl _
      · show (((zc (zrw (zal w).consumers i (zuv w.p.Set w.p.Height w.clock)) i).Pending.length + (zc (zrw (zal w).consumers i (zuv w.p.Set w.p.Height w.clock)) i).Ripes.length : Nat) : Int) ≤ w.deeds + 1
        rw [hci]; show ((0 : Nat) : Int) ≤ _; omega
      · show (zc (zrw (zal w).consumers i (zuv w.p.Set w.p.Height w.clock)) i).On = (zk (zif w.p.Links i w.p.Height w.p.Set (z0p w.p)) i).On
        rw [hci, el]; rfl
      · show (zc (zrw (zal w).consumers i (zuv w.p.Set w.p.Height w.clock)) i).Gone = (zk (zif w.p.Links i w.p.Height w.p.Set (z0p w.p)) i).Gone
        rw [hci, el]; rfl
      · show ∀ s, s ∈ (zk (zif w.p.Links i w.p.Height w.p.Set (z0p w.p)) i).Out.Said → Pk1 s
        rw [el]; intro s hs; cases hs
      · show ∀ s, s ∈ (zc (zrw (zal w).consumers i (zuv w.p.Set w.p.Height w.clock)) i).Out.Said → PkB s
        rw [hci]; intro s hs; cases hs
      · have k' : (zk (zif w.p.Links i w.p.Height w.p.Set (z0p w.p)) i).On = false := k
        rw [el] at k'; cases k'
    · show zk (zif w.p.Links i w.p.Height w.p.Set (z0p w.p)) j = _
      rw [zth hi hj, if_neg hji]
  · rw [if_pos (by exact h0)]; exact zkl h hd
theorem ztv {L : Links} {i j : Int} (hi : 0 ≤ i ∧ i < 2) (hj : 0 ≤ j ∧ j < 2) : zk (zwd L i) j = if j = i then { zk L j with On := false, Gone := true, Fresh := false, Done := [], Out := { (zk L j).Out with Closed := true } } else zk L j := by
  unfold zk zwd
  simp only [zam _ _ hi hj]
  by_cases e : j = i
  · simp only [if_pos e]
  · simp only [if_neg e]
theorem zae3 {w : Wld} (h : OkW w) {i : Int} (hi : 0 ≤ i ∧ i < 2) (ho : (zc w.consumers i).On = true) : zwf w.p i = zwe w.p i ∧ z1f (zc w.consumers i) = { zc w.consumers i with On := false, Gone := true, Out := { (zc w.consumers i).Out with Closed := true } } := by
  have on' : w.p.Links.On.get i = true := by rw [← (h.c i hi).on]; exact ho
  exact ⟨by unfold zwf; rw [if_pos ⟨h.pr, hi, on'⟩], by unfold z1f; rw [if_neg (by rw [ho]; simp)]⟩
theorem zakv {w : Wld} (h : OkW w) (hd : w.deeds < 600) {d : Deed} (hi : 0 ≤ d.C ∧ d.C < 2) (ho : (zc w.consumers d.C).On = true) : OkW (zwh (zal w) d).1 := by
  unfold zwh
  by_cases h0 : (zacr w d).2 = 0
  · rw [if_neg (by show ¬ (zacr w d).2 ≠ 0; simpa using h0)]
    obtain ⟨f1, f2⟩ := zae3 h hi ho
    have hw := h.c d.C hi
    have e1 : zwf (zal w).p d.C = zwe w.p d.C := f1
    have e2 : z1f (zc (zal w).consumers d.C) = { zc w.consumers d.C with On := false, Gone := true, Out := { (zc w.consumers d.C).Out with Closed := true } } := f2
    simp only [e1, e2]
    obtain ⟨g1, g2, g3, g4, g5⟩ := zce hw.good
    have hz := hw.size; have hh := hw.height; have hp := h.ph; have hq := h.pq
    have hqf : (w.p.Queue.filter (z51 d.C)).length ≤ w.p.Queue.length := List.length_filter_le _ _
    have el := ztv (L := w.p.Links) hi hi
    rw [if_pos rfl] at el
    refine z8j (i := d.C) h hd rfl rfl (goodPr_iff.1 (zaex h.pr hi)).1 (by show w.p.Height ≤ _; omega) h.pt (by show (((w.p.Queue.filter (z51 d.C)).length : Nat) : Int) ≤ _; omega) ?_ fun j hj hji => ⟨zla hi hj hji _, .of ?_⟩
    · have hci := znh (C := (zal w).consumers) hi { zc w.consumers d.C with On := false, Gone := true, Out := { (zc w.consumers d.C).Out with Closed := true } }
      refine ⟨?_, ?_, ?_, ?_, ?_, ?_, ?_, ?_, fun k k2 => ?_⟩
      · rw [hci]; exact ztg ⟨rfl, g1.2⟩ g2 g3 g4 g5
      · rw [hci]; show (zc w.consumers d.C).Height ≤ w.deeds + 1; omega
      · rw [hci]; exact hw.time
      · rw [hci]; show (((zc w.consumers d.C).Pending.length + (zc w.consumers d.C).Ripes.length : Nat) : Int) ≤ w.deeds + 1; omega
      · rw [hci]; exact (congrArg Link.On el).symm
      · rw [hci]; exact (congrArg Link.Gone el).symm
      · show ∀ s, s ∈ (zk (zwd w.p.Links d.C) d.C).Out.Said → Pk1 s
        rw [el]; exact hw.told
      · rw [hci]; exact hw.said
      · have k' : (zk (zwd w.p.Links d.C) d.C).Gone = false := k2
        rw [el] at k'; cases k'
    · show zk (zwd w.p.Links d.C) j = _
      rw [ztv hi hj, if_neg hji]
  · rw [if_pos (by exact h0)]; exact zkl h hd
theorem zaha {w : Wld} (h : OkW w) (hd : w.deeds < 600) (d : Deed) : OkW (zmq (zal w) d).1 := by
  have hm := zkl h hd
  unfold zmq
  by_cases c1 : d.Kind < 4 ∨ 12 < d.Kind
  · rw [if_pos c1]; exact hm
  rw [if_neg c1]
  by_cases c2 : d.C < 0 ∨ 2 ≤ d.C
  · rw [if_pos c2]; exact hm
  rw [if_neg c2]
  have hi : 0 ≤ d.C ∧ d.C < 2 := by omega
  by_cases c3 : d.Kind ≠ 4 ∧ (zal w).consumers.On.get d.C = false
  · rw [if_pos c3]; exact hm
  rw [if_neg c3]
  by_cases c4 : d.Kind = 4
  · rw [if_pos c4]; exact zan7 h hd _
  rw [if_neg c4]
  have ho : (zc w.consumers d.C).On = true := by
    cases e : (zc w.consumers d.C).On with
    | true => rfl
    | false => exact absurd ⟨c4, e⟩ c3
  repeat' split
  · exact zag7 h hd hi ho
  · exact zan6 h hd hi ho _
  · exact zag8 h hd hi ho
  · exact zakv h hd hi ho
  · exact zare h hd hi ho _
  · exact zakr h hd hi ho _ _
  · exact hm
theorem zav9 {w : Wld} (h : OkW w) (hd : w.deeds < 600) (d : Deed) : OkW (actW (zal w) d).1 := by
  have hm := zkl h hd
  unfold actW
  repeat' split
  · exact zae1 hm _ _ _
  · exact z9h hm _ _ _
  · exact zako hm _
  · exact zarb hm _ _
  · exact zarc hm _
  · exact zag9 h hd
  · exact zaha h hd d
theorem z3k {w : Wld} (h : OkW w) (d : Deed) : OkW (doW w d).1 := by
  unfold doW
  split
  · exact h
  · rename_i hd; exact zav9 h (by omega) d
end Go.Proofs.YtmakmlnfbdablaaGreat.Ab
namespace Go.Proofs.YtmakmlnfbdablaaGreat.Ab
open Go Go.RowKit
set_option linter.unusedVariables false
set_option linter.unusedSimpArgs false
theorem zacu : zk8 = some newW := by
  rw [zk8, zvp, Tr.run_bind zakd, Tr.run_leaf]; rfl
theorem zacv (w : Wld) : zdy w = some (w.clock, w) := by rw [zdy, zgs, Tr.run_leaf]
theorem zzl {l : List Power} (h : l.length * 16 ≤ 140737488355328) : zcc l = some l := by
  rw [zcc, zn5, Tr.run_guard (by rw [zbe]; omega), Tr.run_leaf]
theorem z4c {l : List Int} (h : l.length * 8 ≤ 140737488355328) : zck l = some l := by
  rw [zck, zl9, Tr.run_guard (by rw [zkv]; omega), Tr.run_leaf]
theorem zae4 {p : Packet} (h1 : p.Set.length * 16 ≤ 140737488355328) (h2 : p.Done.length * 8 ≤ 140737488355328) : zf4 p = some p := by
  rw [zf4, zn7, zzl h1, z4c h2, Tr.run_guard (by rfl), Tr.run_guard (by rfl), Tr.run_leaf]; rfl
theorem zaan {l : zbk} (h1 : l.Said.length * 16 ≤ 140737488355328) (h2 : l.Due.length * 8 ≤ 140737488355328) : zbz l = some l := by
  rw [zbz, zmb, z4c h2, Tr.run_guard (by show (0 + l.Said.length) * 16 ≤ _; omega), Tr.run_guard (by rfl), Tr.run_leaf]; rfl
theorem zae5 {w : Wld} (hf : FitPr 140737488351232 w.p) : zi w = some (w.p, w) := by
  have hw := hf.waits; have hs := hf.set; have hq := hf.queue
  have turn : ∀ (c : Nat), c < 2 → ∀ z, (zay (c : Int) w z w.p).run = some (.inl (((c + 1 : Nat) : Int), w, z, w.p)) := by
    intro c hc z
    have e1 := zzl (l := w.p.Links.Told.get c) (by have := hf.told c; omega)
    have e2 := z4c (l := w.p.Links.Done.get c) (by have := hf.done c; omega)
    have e3 := zaan (l := (zk w.p.Links c).Out) (by have := hf.said c; show (w.p.Links.Said.get c).length * 16 ≤ _; omega) (by have := hf.due c; show (w.p.Links.Due.get c).length * 8 ≤ _; omega)
    simp only [zay]
    rw [Tr.run_true (by simp; omega), Tr.run_guard ⟨by omega, by omega⟩, e1, e2, e3, Tr.run_guard (by rfl), Tr.run_guard (by rfl), Tr.run_guard (by rfl), Tr.run_leaf, z6 (by omega)]
    simp only [Option.getD_some]
    have hb : 0 ≤ (c : Int) ∧ (c : Int) < 2 := by omega
    unfold zk
    simp only [zru _ hb]
  have l1 : ∀ z, zer 0 w z w.p = some (w, z, w.p) := by
    intro z
    rw [zer, zcv (s' := (((1 : Nat) : Int), w, z, w.p)) (turn 0 (by omega) z), zcv (s' := (((2 : Nat) : Int), w, z, w.p)) (turn 1 (by omega) z), ze8 (by
      show (zay 2 w z w.p).run = _
      simp only [zay]
      rw [Tr.run_false (by simp), Tr.run_leaf])]
  have l2 : ∀ z q, zes w.p.Queue w.p.Queue.length 0 w z q [] = some (w, z, q, w.p.Queue) := by
    intro z q
    rw [zes]
    have := znc (F := fun s : (List Asked) × Int × Int × Wld × za × za × (List Asked) => (zbv s.1 s.2.1 s.2.2.1 s.2.2.2.1 s.2.2.2.2.1 s.2.2.2.2.2.1 s.2.2.2.2.2.2).run) w.p.Queue.length (fun i t => (w.p.Queue, (w.p.Queue.length : Int), (i : Int), w, z, q, t)) (fun i t => t = w.p.Queue.take i) (fun _ _ => (w, z, q, w.p.Queue)) ?_ ?_ 0 [] (Nat.zero_le _) rfl
    · exact this
    · rintro t rfl
      simp only [zbv]; rw [Tr.run_false (by simp), Tr.run_leaf, List.take_length]
    · rintro i t hi ht
      obtain ⟨p1, p2⟩ := hf.ps _ (zgu (l := w.p.Queue) (k := i) hi default)
      have htl : t.length ≤ i := by rw [ht, List.length_take]; omega
      refine .inl ⟨t ++ [w.p.Queue.getD i default], ?_, by rw [ht, zng hi default], by trivial⟩
      simp only [zbv, Int.toNat_natCast]
      rw [Tr.run_true (by simpa using hi), Tr.run_guard ⟨by omega, by rw [zgi]; omega⟩, zae4 (by omega) (by omega), Tr.run_guard (by rfl), Tr.run_guard (by simp only [zgi, List.length_singleton]; omega), Tr.run_leaf, z6 (by omega)]
      rfl
  rw [zi, zek, Tr.run_guard (by rw [zbs]; omega), Tr.run_bind (zzl (by omega)), Tr.run_bind (v := (w, default, w.p)) (by exact l1 default)]
  simp only []
  rw [Tr.run_bind (v := (w, default, w.p, w.p.Queue)) (by exact l2 default w.p), Tr.run_leaf]
theorem zae6 {w : Wld} {i : Int} (hf : (0 ≤ i ∧ i < 2) → FitC 140737488351232 (zc w.consumers i)) : zg i w = some (if 0 ≤ i ∧ i < 2 then zc w.consumers i else default, w) := by
  rw [zg, zem]
  by_cases hi : 0 ≤ i ∧ i < 2
  · have hf := hf hi
    have e1 := zzl (l := w.consumers.Set.get i) (by have : (w.consumers.Set.get i).length * 16 ≤ _ := hf.set; omega)
    have e3 := zaan (l := (zc w.consumers i).Out) (by have := hf.said; omega) (by have := hf.due; omega)
    have hr : (w.consumers.Ripes.get i).length * 16 ≤ 140737488351232 := hf.ripes
    have hp : (w.consumers.Pending.get i).length * 80 ≤ 140737488351232 := hf.pend
    have l1 : ∀ z q, zet (w.consumers.Pending.get i) (w.consumers.Pending.get i).length 0 w z q [] = some (w, z, q, w.consumers.Pending.get i) := by
      intro z q
      have hps : ∀ p, p ∈ w.consumers.Pending.get i → p.Set.length * 16 ≤ 140737488351232 ∧ p.Done.length * 8 ≤ 140737488351232 := hf.ps
      generalize w.consumers.Pending.get i = l at *
      rw [zet]
      have := znc (F := fun s : (List Packet) × Int × Int × Wld × zb × zb × (List Packet) => (zbw s.1 s.2.1 s.2.2.1 s.2.2.2.1 s.2.2.2.2.1 s.2.2.2.2.2.1 s.2.2.2.2.2.2).run) l.length (fun i t => (l, (l.length : Int), (i : Int), w, z, q, t)) (fun i t => t = l.take i) (fun _ _ => (w, z, q, l)) ?_ ?_ 0 [] (Nat.zero_le _) rfl
      · exact this
      · rintro t rfl
        simp only [zbw]; rw [Tr.run_false (by simp), Tr.run_leaf, List.take_length]
      · rintro k t hk ht
        obtain ⟨p1, p2⟩ := hps _ (zgu (l := l) (k := k) hk default)
        have htl : t.length ≤ k := by rw [ht, List.length_take]; omega
        refine .inl ⟨t ++ [l.getD k default], ?_, by rw [ht, zng hk default], by trivial⟩
        simp only [zbw, Int.toNat_natCast]
        rw [Tr.run_true (by simpa using hk), Tr.run_guard ⟨by omega, by rw [zha]; omega⟩, Tr.run_bind (zae4 (by omega) (by omega)), Tr.run_guard (by simp only [zha, List.length_singleton]; omega), Tr.run_leaf, z6 (by omega)]
    rw [if_pos hi, Tr.run_false (by simp; omega), Tr.run_guard hi, e1, e3, Tr.run_guard (by rfl), Tr.run_guard (by rfl), Tr.run_guard (by rw [zoy]; omega)]
    simp only [Option.getD_some]
    rw [Tr.run_bind (v := (w, default, zc w.consumers i, w.consumers.Pending.get i)) (by exact l1 default _), Tr.run_leaf]
    rfl
  · rw [if_neg hi, Tr.run_true (by simp; omega), Tr.run_leaf]
theorem zakw {w : Wld} (h : OkW w) {i : Int} (hi : 0 ≤ i ∧ i < 2) (b : Bool) : (zakn (zcm w i b)).size ≤ 71 := by
  have hw := h.c i hi
  unfold zakn
  split
  · rename_i hg
    have hmem : (zcm w i b).Said.getD (zcm w i b).Got.toNat .empty ∈ (zcm w i b).Said := by
      by_cases h0 : (zcm w i b).Got.toNat < (zcm w i b).Said.length
      · exact zgu h0 _
      · exact absurd hg (by
          cases b with
          | true => have : 0 ≤ (zc w.consumers i).Out.Got := (zce hw.good).2.1.2.2.1
                    show ¬ (zc w.consumers i).Out.Got < _
                    have h0' : ¬ (zc w.consumers i).Out.Got.toNat < (zc w.consumers i).Out.Said.length := h0
                    show ¬ (zc w.consumers i).Out.Got < (((zc w.consumers i).Out.Said.length : Nat) : Int)
                    omega
          | false => have : 0 ≤ (zk w.p.Links i).Out.Got := (h.p.lk hi).line.2.2.1
                     have h0' : ¬ (zk w.p.Links i).Out.Got.toNat < (zk w.p.Links i).Out.Said.length := h0
                     show ¬ (zk w.p.Links i).Out.Got < (((zk w.p.Links i).Out.Said.length : Nat) : Int)
                     omega)
    generalize (zcm w i b).Said.getD (zcm w i b).Got.toNat .empty = s at hmem
    have : ∃ q, zfj q = 0 ∧ s = txt (zuy q) := by
      cases b with
      | true => obtain ⟨q, q1, _, q2⟩ := hw.said s hmem; exact ⟨q, q1, q2⟩
      | false => obtain ⟨q, q1, _, q2⟩ := hw.told s hmem; exact ⟨q, q1, q2⟩
    obtain ⟨q, q1, rfl⟩ := this
    have := z8b q1
    rw [z29, z1d]; omega
  · decide
theorem zan8 {n : Nat} (h : n ≤ 1000) : zfj (zae0 n) = 0 := by
  have hw : IntKind.i64.wrap (1 + (n : Int)) = 1 + n := zp (by omega) (by omega)
  unfold zfj zae0
  rw [hw]
  simp only []
  rw [if_neg (by omega), if_neg (by omega), if_neg (by simp), if_neg (by simp [zab]), if_neg (by simp [zau])]
theorem zawa {w : Wld} (h : OkW w) {i : Int} (hi : 0 ≤ i ∧ i < 2) (b f : Bool) : zqi (zcm w i b) f = some (zkz (zcm w i b) f) ∧ (zkz (zcm w i b) f).size ≤ 71 := by
  have hz := zakw h hi b
  have hg0 : 0 ≤ (zcm w i b).Got := by
    cases b with
    | true => exact (zce (h.c i hi).good).2.1.2.2.1
    | false => exact (h.p.lk hi).line.2.2.1
  have hE : ∀ n : Nat, z5 (⟨3, 1, 0, IntKind.i64.wrap (1 + (n : Int)), [], []⟩ : Packet) = some (zga (zae0 n)) := fun n => z3a (by simp) (by simp)
  generalize zcm w i b = l at *
  have hsz : (zkz l f).size ≤ 71 := by
    unfold zkz
    cases f with
    | true => rw [if_pos rfl, zoz (zan8 (by omega)), z29, z1d]; simp [zae0]
    | false => rw [if_neg (by simp)]; exact hz
  refine ⟨?_, hsz⟩
  rw [zqi, ztb]
  unfold zkz
  unfold zakn at hz ⊢
  by_cases hl : l.Got < ((l.Said.length : Nat) : Int)
  · rw [if_pos hl, Tr.run_true (by simpa using hl), Tr.run_guard ⟨hg0, by show l.Got < ((l.Said.length : Nat) : Int); exact hl⟩]
    cases f with
    | true => rw [Tr.run_false (by rfl), if_pos rfl, Tr.run_bind (hE _), Tr.run_leaf]
    | false => rw [Tr.run_true (by rfl), if_neg (by simp), Tr.run_leaf]
  · rw [if_neg hl, Tr.run_false (by simpa using hl)]
    cases f with
    | true => rw [Tr.run_false (by rfl), if_pos rfl, Tr.run_bind (hE _), Tr.run_leaf]
    | false => rw [Tr.run_true (by rfl), if_neg (by simp), Tr.run_leaf]
theorem zakx {w : Wld} (hf : FitPr 140737488351232 w.p) : zhb w = some ((zmp w).2, (zmp w).1) := by
  rw [zhb, ze5, zakf hf, Tr.run_guard (by rfl)]
  simp only [Option.getD_some]
  unfold zmp
  by_cases h0 : (zo3 w.p w.clock).2.2 = 0
  · rw [Tr.run_false (by simpa using h0), if_neg (by simpa using h0)]
    have turn : ∀ (c : Nat), c < 2 → ∀ (u : Wld) l z (p : za), (zbi l (c : Int) u z p).run = some (.inl (l, ((c + 1 : Nat) : Int), { u with heads := { u.heads with PHeight := u.heads.PHeight.set c p.Height, PTime := u.heads.PTime.set c p.Time, PSaid := u.heads.PSaid.set c (((p.Links.Said.get c).length : Nat) : Int), PGot := u.heads.PGot.set c (u.consumers.Got.get c) } }, z, p)) := by
      intro c hc u l z p
      simp only [zbi]
      rw [Tr.run_true (by simp; omega), Tr.run_guard ⟨by omega, by omega⟩, Tr.run_guard ⟨by omega, by omega⟩, Tr.run_guard ⟨by omega, by omega⟩, Tr.run_guard ⟨by omega, by omega⟩, Tr.run_leaf, z6 (by omega)]
    have loop : ∀ l z, zfe l 0 { w with p := (zo3 w.p w.clock).1 } z (zo3 w.p w.clock).1 = some (l, { w with p := (zo3 w.p w.clock).1, heads := zan2 w.heads (zo3 w.p w.clock).1 w.consumers }, z) := by
      intro l z
      generalize (zo3 w.p w.clock).1 = p
      rw [zfe, zcv (turn 0 (by omega) _ _ _ _), zcv (turn 1 (by omega) _ _ _ _), ze8 (by
        show (zbi _ 2 _ _ _).run = _
        simp only [zbi]
        rw [Tr.run_false (by simp), Tr.run_leaf])]
      rfl
    rw [Tr.run_bind (v := ((zo3 w.p w.clock).2.1, { w with p := (zo3 w.p w.clock).1, heads := zan2 w.heads (zo3 w.p w.clock).1 w.consumers }, ⟨0, 0⟩)) (by exact loop _ _), Tr.run_leaf]
  · rw [Tr.run_true (by simpa using h0), if_pos h0, Tr.run_leaf]; rfl
theorem zahb {C : zdf} {i : Int} (hi : 0 ≤ i ∧ i < 2) (l : zbk) : ({ C with Said := C.Said.set i l.Said, Due := C.Due.set i l.Due, Got := C.Got.set i l.Got, Closed := C.Closed.set i l.Closed } : zdf) = zrw C i { zc C i with Out := l } := by
  unfold zrw zc
  simp only [zru _ hi]
theorem zaky {w : Wld} (h : OkW w) {d : Deed} (hi : 0 ≤ d.C ∧ d.C < 2) : zhc d w = some ((zoe w d).2, (zoe w d).1) := by
  rw [zhc, ze6, Tr.run_guard hi, Tr.run_guard hi]
  obtain ⟨t1, t2⟩ := zawa h hi d.Back d.Forged
  unfold zoe zni
  cases hb : d.Back with
  | true =>
    rw [hb] at t1 t2
    have e0 : (zc w.consumers d.C).Out = zcm w d.C true := rfl
    have e1 : w.consumers.Got.get d.C = (zcm w d.C true).Got := rfl
    rw [Tr.run_true rfl, e0, Tr.run_bind t1, e1, z95, Tr.run_guard (by rfl)]
    simp only [Option.getD_some]
    have es : zacq w d.C true = w.p.Links.SSaid.get d.C := rfl
    rw [← es]
    by_cases h0 : (zqm (zcm w d.C true) (IntKind.i64.wrap ((zcm w d.C true).Got + 1)) (zkz (zcm w d.C true) d.Forged) (zacq w d.C true) w.clock).2 = 0
    · rw [Tr.run_false (by simpa using h0), if_neg (by simpa using h0), Tr.run_true rfl, if_pos trivial, zag2 h.fit (by omega), Tr.run_guard (by rfl)]
      simp only [Option.getD_some]
      by_cases h1 : (zpp w.p d.C (zkz (zcm w d.C true) d.Forged).data.toList).2 = 0
      · rw [Tr.run_false (by simpa using h1), if_neg (by simpa using h1), Tr.run_leaf, zahb hi]
      · rw [Tr.run_true (by simpa using h1), if_pos h1, Tr.run_leaf]; rfl
    · rw [Tr.run_true (by simpa using h0), if_pos h0, Tr.run_leaf]; rfl
  | false =>
    rw [hb] at t1 t2
    have e0 : (zk w.p.Links d.C).Out = zcm w d.C false := rfl
    have e1 : w.p.Links.Got.get d.C = (zcm w d.C false).Got := rfl
    rw [Tr.run_false rfl, e0, Tr.run_bind t1, e1, z95, Tr.run_guard (by rfl)]
    simp only [Option.getD_some]
    have es : zacq w d.C false = w.consumers.SSaid.get d.C := rfl
    rw [← es]
    by_cases h0 : (zqm (zcm w d.C false) (IntKind.i64.wrap ((zcm w d.C false).Got + 1)) (zkz (zcm w d.C false) d.Forged) (zacq w d.C false) w.clock).2 = 0
    · rw [Tr.run_false (by simpa using h0), if_neg (by simpa using h0), Tr.run_false rfl, if_neg (by simp), Tr.run_bind (zav0 ((h.c d.C hi).fit h.d1) (by omega))]
      by_cases h1 : (zyq (zc w.consumers d.C) (zkz (zcm w d.C false) d.Forged).data.toList).2 = 0
      · rw [Tr.run_false (by simpa using h1), if_neg (by simpa using h1), Tr.run_leaf]; rfl
      · rw [Tr.run_true (by simpa using h1), if_pos h1, Tr.run_leaf]; rfl
    · rw [Tr.run_true (by simpa using h0), if_pos h0, Tr.run_leaf]; rfl
theorem zan9 {w : Wld} (h : OkW w) {d : Deed} (hi : 0 ≤ d.C ∧ d.C < 2) : zib d w = some ((zwh w d).2, (zwh w d).1) := by
  rw [zib, zfm, Tr.run_guard hi, Tr.run_guard hi]
  have hr := zacp h.fit (c := d.C)
  unfold zwh zacr
  cases hb : d.Back with
  | true =>
    rw [Tr.run_true rfl, if_pos rfl, Tr.run_bind (zad4 _ _ _ _)]
    by_cases h0 : (z3z (zc w.consumers d.C).Out d.N (w.consumers.STime.get d.C) (w.consumers.SGot.get d.C)).2 = 0
    · rw [Tr.run_false (by simpa using h0), if_neg (by simpa using h0), hr, Tr.run_guard (by rfl), Tr.run_bind zaem, Tr.run_leaf]; rfl
    · rw [Tr.run_true (by simpa using h0), if_pos h0, Tr.run_leaf]; rfl
  | false =>
    rw [Tr.run_false rfl, if_neg (show ¬ (false = true) by simp), Tr.run_bind (zad4 _ _ _ _)]
    by_cases h0 : (z3z (zk w.p.Links d.C).Out d.N (w.p.Links.STime.get d.C) (w.p.Links.SGot.get d.C)).2 = 0
    · rw [Tr.run_false (by simpa using h0), if_neg (by simpa using h0), hr, Tr.run_guard (by rfl), Tr.run_bind zaem, Tr.run_leaf]; rfl
    · rw [Tr.run_true (by simpa using h0), if_pos h0, Tr.run_leaf]; rfl
end Go.Proofs.YtmakmlnfbdablaaGreat.Ab
namespace Go.Proofs.YtmakmlnfbdablaaGreat.Ab
open Go Go.RowKit
set_option linter.unusedVariables false
set_option linter.unusedSimpArgs false
theorem zakz {w : Wld} (h : OkW w) {d : Deed} : zhd d w = some ((zmq w d).2, (zmq w d).1) := by
  rw [zhd, ze7]
  unfold zmq
  by_cases c1 : d.Kind < 4 ∨ 12 < d.Kind
  · rw [if_pos c1, Tr.run_true (by simpa using c1), Tr.run_leaf]; rfl
  rw [if_neg c1, Tr.run_false (by simp; omega)]
  by_cases c2 : d.C < 0 ∨ 2 ≤ d.C
  · rw [if_pos c2, Tr.run_true (by simpa using c2), Tr.run_leaf]; rfl
  have hi : 0 ≤ d.C ∧ d.C < 2 := by omega
  have hw := h.c d.C hi
  have hfc := hw.fit h.d1
  rw [if_neg c2, Tr.run_false (by simp; omega), Tr.run_guard hi]
  by_cases c3 : d.Kind ≠ 4 ∧ w.consumers.On.get d.C = false
  · rw [if_pos c3, Tr.run_true (by simpa using c3), Tr.run_leaf]; rfl
  rw [if_neg c3, Tr.run_false (by
    rw [Bool.eq_false_iff]; intro k; apply c3; simpa using k)]
  by_cases c4 : d.Kind = 4
  · rw [if_pos c4, Tr.run_true (by simpa using c4), zaeu h.fit, Tr.run_guard (by rfl)]
    simp only [Option.getD_some]
    unfold z3i
    by_cases h0 : (zev w.p d.C).2 = 0
    · obtain ⟨f1, _, f3, f4, f5, f6, f7⟩ := z1i h0
      have hs : (zev w.p d.C).1.Set.length * 16 ≤ 140737488355328 := by rw [f7]; have := h.fit.set; show w.p.Set.length * 16 ≤ _; omega
      rw [Tr.run_false (by simpa using h0), if_neg (by simpa using h0), zaqx hs, Tr.run_guard (by rfl), Tr.run_guard hi, Tr.run_leaf]
      rfl
    · rw [Tr.run_true (by simpa using h0), if_pos h0, Tr.run_leaf]; rfl
  rw [if_neg c4, Tr.run_false (by simpa using c4)]
  have hsz := hw.size; have hd1 := h.d1
  by_cases c7 : d.Kind = 7
  · have he : zaa (zc w.consumers d.C) w.clock = some (endC w.clock (zc w.consumers d.C)) := za2j hfc (by omega)
    rw [if_pos c7, Tr.run_true (by simpa using c7), he, Tr.run_guard (by rfl)]
    simp only [Option.getD_some]
    unfold zwg
    by_cases h0 : (endC w.clock (zc w.consumers d.C)).2 = 0
    · rw [Tr.run_true (by simpa using h0), Tr.run_guard hi, Tr.run_guard hi, Tr.run_guard (by omega), Tr.run_false (by simpa using h0), if_neg (by simpa using h0), Tr.run_leaf]; rfl
    · rw [Tr.run_false (by simpa using h0), Tr.run_true (by simpa using h0), if_pos h0, Tr.run_leaf]; rfl
  rw [if_neg c7, Tr.run_false (by simpa using c7)]
  by_cases c8 : d.Kind = 8
  · rw [if_pos c8, Tr.run_true (by simpa using c8)]
    unfold z8e
    cases hb : d.Back with
    | true =>
      rw [Tr.run_true rfl, if_pos rfl, Tr.run_guard hi, Tr.run_guard (by omega), Tr.run_guard hi, Tr.run_false rfl, Tr.run_leaf, zaez hi]; rfl
    | false =>
      rw [Tr.run_false rfl, if_neg (show ¬ (false = true) by simp), Tr.run_guard hi, Tr.run_guard (by omega), Tr.run_false rfl, Tr.run_leaf]; rfl
  rw [if_neg c8, Tr.run_false (by simpa using c8)]
  by_cases c9 : d.Kind = 9
  · rw [if_pos c9, Tr.run_true (by simpa using c9), Tr.run_bind (zaky h hi), Tr.run_leaf]
  rw [if_neg c9, Tr.run_false (by simpa using c9)]
  by_cases c10 : d.Kind = 10
  · rw [if_pos c10, Tr.run_true (by simpa using c10), Tr.run_bind (zan9 h hi), Tr.run_leaf]
  rw [if_neg c10, Tr.run_false (by simpa using c10)]
  by_cases c11 : d.Kind = 11
  · rw [if_pos c11, Tr.run_true (by simpa using c11), zav1 hfc, Tr.run_guard (by rfl)]
    simp only [Option.getD_some]
    unfold putW
    by_cases h0 : (z75 (zc w.consumers d.C) d.V w.clock).2 = 0
    · rw [Tr.run_false (by simpa using h0), if_neg (by simpa using h0), Tr.run_leaf]
    · rw [Tr.run_true (by simpa using h0), if_pos h0, Tr.run_leaf]; rfl
  rw [if_neg c11, Tr.run_false (by simpa using c11)]
  by_cases c12 : d.Kind = 12
  · rw [if_pos c12, Tr.run_true (by simpa using c12), zani hfc, Tr.run_guard (by rfl)]
    simp only [Option.getD_some]
    unfold putW
    by_cases h0 : (ztu (zc w.consumers d.C) d.V d.N w.clock).2 = 0
    · rw [Tr.run_false (by simpa using h0), if_neg (by simpa using h0), Tr.run_leaf]
    · rw [Tr.run_true (by simpa using h0), if_pos h0, Tr.run_leaf]; rfl
  rw [if_neg c12, Tr.run_false (by simpa using c12), Tr.run_false rfl, Tr.run_leaf, zaez hi]
theorem z8m {w : Wld} (h : OkW w) {d : Deed} (hn : d.N ≤ 9223372036854775807) : zd d w = some ((doW w d).2, (doW w d).1) := by
  rw [zd, zke]
  unfold doW
  by_cases c0 : 600 ≤ w.deeds
  · rw [if_pos c0, Tr.run_true (by simpa using c0), Tr.run_leaf]; rfl
  have hd : w.deeds < 600 := by omega
  have hd0 := h.d0
  have hw : IntKind.i64.wrap (w.deeds + 1) = w.deeds + 1 := zp (by omega) (by omega)
  have hm := zkl h hd
  rw [if_neg c0, Tr.run_false (by simpa using c0), hw]
  have e0 : ({ w with deeds := w.deeds + 1 } : Wld) = zal w := rfl
  unfold actW
  by_cases c1 : d.Kind = 1
  · rw [if_pos c1, Tr.run_true (by simpa using c1), Tr.run_bind (z77 h.fit hn)]
    unfold zpd
    by_cases h0 : (zdw w.p d.D d.V d.N).2 = 0
    · rw [Tr.run_false (by simpa using h0), if_neg (by show ¬ (zdw w.p d.D d.V d.N).2 ≠ 0; simpa using h0), Tr.run_leaf]; rfl
    · rw [Tr.run_true (by simpa using h0), if_pos (by exact h0), Tr.run_leaf]; rfl
  rw [if_neg c1, Tr.run_false (by simpa using c1)]
  by_cases c2 : d.Kind = 2
  · rw [if_pos c2, Tr.run_true (by simpa using c2), z36 h.fit hn, Tr.run_guard (by rfl)]
    simp only [Option.getD_some]
    unfold zpd
    by_cases h0 : (zdo w.p d.D d.V d.N w.clock).2 = 0
    · rw [Tr.run_false (by simpa using h0), if_neg (by show ¬ (zdo w.p d.D d.V d.N w.clock).2 ≠ 0; simpa using h0), Tr.run_leaf]; rfl
    · rw [Tr.run_true (by simpa using h0), if_pos (by exact h0), Tr.run_leaf]; rfl
  rw [if_neg c2, Tr.run_false (by simpa using c2)]
  by_cases c3 : d.Kind = 3
  · rw [if_pos c3, Tr.run_true (by simpa using c3), Tr.run_bind zam4]
    unfold zpd
    by_cases h0 : (zcw w.p.Stake d.V 1).2 = 0
    · rw [Tr.run_false (by simpa using h0), if_neg (by show ¬ (zcw w.p.Stake d.V 1).2 ≠ 0; simpa using h0), Tr.run_leaf]; rfl
    · rw [Tr.run_true (by simpa using h0), if_pos (by exact h0), Tr.run_leaf]; rfl
  rw [if_neg c3, Tr.run_false (by simpa using c3)]
  by_cases c13 : d.Kind = 13
  · rw [if_pos c13, Tr.run_true (by simpa using c13), Tr.run_bind (z8a h.fit)]
    unfold zpd
    by_cases h0 : (zys w.p d.V d.N).2 = 0
    · rw [Tr.run_false (by simpa using h0), if_neg (by show ¬ (zys w.p d.V d.N).2 ≠ 0; simpa using h0), Tr.run_leaf]; rfl
    · rw [Tr.run_true (by simpa using h0), if_pos (by exact h0), Tr.run_leaf]; rfl
  rw [if_neg c13, Tr.run_false (by simpa using c13)]
  by_cases c5 : d.Kind = 5
  · rw [if_pos c5, Tr.run_true (by simpa using c5)]
    have t0 := h.t0; have t1 := h.t1
    have h1 : IntKind.i64.wrap (1099511627736 - w.clock) = 1099511627736 - w.clock := zp (by omega) (by omega)
    rw [h1]
    unfold zag5
    by_cases h0 : d.N < 1 ∨ 1099511627736 - w.clock < d.N
    · rw [Tr.run_true (by simpa using h0), if_pos (by exact h0), Tr.run_leaf]; rfl
    · have h2 : IntKind.i64.wrap (w.clock + d.N) = w.clock + d.N := zp (by omega) (by omega)
      rw [Tr.run_false (by simp; omega), if_neg (by exact h0), Tr.run_leaf, h2]; rfl
  rw [if_neg c5, Tr.run_false (by simpa using c5)]
  by_cases c6 : d.Kind = 6
  · rw [if_pos c6, Tr.run_true (by simpa using c6), e0, Tr.run_bind (zakx hm.fit), Tr.run_leaf]
  rw [if_neg c6, Tr.run_false (by simpa using c6), e0, Tr.run_bind (zakz hm), Tr.run_leaf]
def stk7 : Stake := ⟨⟨⟨99300, 100000, 100000, 100000⟩, 700, 0, 0⟩, { za2g with Tokens := ⟨700, 0, 0, 0, 0, 0⟩, Shares := ⟨700, 0, 0, 0, 0, 0⟩ }, ⟨⟨700, 0, 0, 0, 0, 0⟩, ⟨0, 0, 0, 0, 0, 0⟩, ⟨0, 0, 0, 0, 0, 0⟩, ⟨0, 0, 0, 0, 0, 0⟩⟩, [], 1⟩
theorem zaoa : GoodS stk7 := by decide
theorem zae7 : zcd newS 0 0 700 = (stk7, 0) := by
  have h : zgg newS 0 0 = 0 := by
    unfold zgg
    rw [if_neg (by simpa using zanb), if_neg (by omega)]
  unfold zcd
  rw [if_neg (by simpa using h), if_neg (by decide), if_neg (by omega), if_neg (by decide), if_neg (by decide), if_neg (by decide), if_neg (by decide)]
  rfl
theorem zaob : setS stk7 = [⟨0, 7⟩] := by rfl
def p7 : za := { zaep with Stake := stk7 }
def p8 : za := ⟨1, 5, stk7, [⟨0, 7⟩], default, zakc (newM 0 0) (allP []) 5, []⟩
theorem zawb : zav p7 = true := by decide
theorem zawc : zav p8 = true := by decide
theorem zahc : zdw zaep 0 0 700 = (p7, 0) := by
  unfold zdw
  rw [if_pos zaaj]
  show (if (zcd newS 0 0 700).2 ≠ 0 then _ else (({ zaep with Stake := (zcd newS 0 0 700).1 } : za), (0 : Int))) = _
  rw [zae7]; rfl
theorem za2t : zo3 p7 5 = (p8, [], 0) := by
  have hpay : payS stk7 5 = (stk7, [], 0) := by unfold payS; rw [if_neg (by simpa using zaoa)]; rfl
  unfold zo3
  rw [if_pos ⟨zawb, by decide, by decide⟩]
  have hp : zqo p7 5 = p8 := by
    unfold zqo
    show ({ z0o p7 5 with Stake := (payS stk7 5).1, Set := setS (payS stk7 5).1, Queue := [] } : za) = _
    rw [hpay, zaob]; rfl
  rw [hp, zaix (p := p8) (c := 0) rfl, zaix (p := p8) (c := 1) rfl]
  show (p8, (payS stk7 5).2.1, (0 : Int)) = _
  rw [hpay]
def w1 : Wld := ⟨0, p7, default, default, 1⟩
def w2 : Wld := ⟨5, p7, default, default, 2⟩
def w3 : Wld := ⟨5, p8, default, zan2 default p8 default, 3⟩
theorem do_1 : doW newW ⟨1, 0, 0, 0, 700, false, false⟩ = (w1, ⟨0, 0⟩) := by
  show zpd (zal newW) (zdw zaep 0 0 700) = _
  rw [zahc]; rfl
theorem do_2 : doW w1 ⟨5, 0, 0, 0, 5, false, false⟩ = (w2, ⟨0, 5⟩) := by rfl
theorem do_3 : doW w2 ⟨6, 0, 0, 0, 0, false, false⟩ = (w3, ⟨0, 0⟩) := by
  show zmp (zal w2) = _
  unfold zmp
  have e : zo3 (zal w2).p (zal w2).clock = (p8, [], 0) := za2t
  rw [e]; rfl
theorem do_4 : (doW w3 ⟨4, 0, 0, 0, 0, false, false⟩).2.N = 1 ∧ (doW w3 ⟨4, 0, 0, 0, 0, false, false⟩).1.clock = 5 ∧ (zc (doW w3 ⟨4, 0, 0, 0, 0, false, false⟩).1.consumers 0).Set = [⟨0, 7⟩] := by
  have hb : zev p8 0 = (zpq p8 0 (p8.Stake.Waits.map (zj4 0 p8.Height)) (z0p p8), 0) := by
    unfold zev
    rw [if_neg (by rw [zawc]; simp), if_pos (by omega), if_neg (by decide), if_neg (by decide), if_neg (by decide)]
  have e : doW w3 ⟨4, 0, 0, 0, 0, false, false⟩ = z3i (zal w3) 0 := rfl
  rw [e]
  unfold z3i
  have e2 : zev (zal w3).p 0 = (zpq p8 0 (p8.Stake.Waits.map (zj4 0 p8.Height)) (z0p p8), 0) := hb
  rw [e2]
  exact ⟨rfl, rfl, rfl⟩
theorem okW1 : OkW w1 := by have := z3k z8f ⟨1, 0, 0, 0, 700, false, false⟩; rw [do_1] at this; exact this
theorem okW2 : OkW w2 := by have := z3k okW1 ⟨5, 0, 0, 0, 5, false, false⟩; rw [do_2] at this; exact this
theorem okW3 : OkW w3 := by have := z3k okW2 ⟨6, 0, 0, 0, 0, false, false⟩; rw [do_3] at this; exact this
theorem okW4 : OkW (doW w3 ⟨4, 0, 0, 0, 0, false, false⟩).1 := z3k okW3 _
end Go.Proofs.YtmakmlnfbdablaaGreat.Ab
namespace Go.Proofs.YtmakmlnfbdablaaGreat.Ab
open Go Go.RowKit
set_option linter.unusedVariables false
set_option linter.unusedSimpArgs false
structure Alike (w w' : Wld) : Prop where
  p : w'.p = w.p
  c : w'.consumers = w.consumers
  t : w'.clock = w.clock
theorem Alike.refl (w : Wld) : Alike w w := ⟨rfl, rfl, rfl⟩
theorem Alike.more (w : Wld) : Alike w (zal w) := ⟨rfl, rfl, rfl⟩
def zaoc (w : Wld) (s : Stake) : Wld := { zal w with p := { w.p with Stake := s } }
def za2u (w : Wld) (s : Stake) : Wld := { zal w with p := { w.p with Stake := s, Links := zaeq w.p.Links } }
def zbdn (w : Wld) (n : Int) : Wld := { zal w with clock := w.clock + n }
def za2v (w : Wld) : Wld := { zal w with p := (zo3 w.p w.clock).1, heads := zan2 w.heads (zo3 w.p w.clock).1 w.consumers }
def zbdo (w : Wld) (i : Int) : Wld := { zal w with p := zpq w.p i (w.p.Stake.Waits.map (zj4 i w.p.Height)) (z0p w.p), consumers := zrw w.consumers i (zuv w.p.Set w.p.Height w.clock), heads := zaso w.heads i }
def zak0 (w : Wld) (i : Int) (c : zb) : Wld := { zal w with consumers := zrw w.consumers i c }
def zbdp (w : Wld) (i : Int) : Wld := { zal w with p := { w.p with Links := z1h w.p.Links i (za2r w.heads i) } }
def zbdq (w : Wld) (i : Int) : Wld := { zak0 w i (endC w.clock (zc w.consumers i)).1 with heads := za2p w.heads i (endC w.clock (zc w.consumers i)).1 (w.p.Links.Got.get i) }
def gotB (w : Wld) (i : Int) (q : Packet) : Wld := { zak0 w i { zc w.consumers i with Out := { (zc w.consumers i).Out with Got := (zc w.consumers i).Out.Got + 1 } } with p := { w.p with Queue := w.p.Queue ++ [⟨i, q⟩] } }
def gotF (w : Wld) (i : Int) (q : Packet) : Wld := { zak0 w i { zc w.consumers i with Pending := (zc w.consumers i).Pending ++ [q] } with p := { w.p with Links := z0q w.p.Links i { (zk w.p.Links i).Out with Got := (zk w.p.Links i).Out.Got + 1 } } }
def zbdr (w : Wld) (i : Int) : Wld := { zak0 w i { zc w.consumers i with On := false, Gone := true, Out := { (zc w.consumers i).Out with Closed := true } } with p := zwe w.p i }
def zbds (w : Wld) (i : Int) (q : Packet) (f : A6 Bool) : zb := { zc w.consumers i with Out := { (zc w.consumers i).Out with Said := (zc w.consumers i).Out.Said ++ [txt (zuy q)], Due := (zc w.consumers i).Out.Due ++ [w.clock + 40] }, Flags := f }
structure zawd (w : Wld) (i : Int) (b : Bool) (q : Packet) : Prop where
  good : zen (zcm w i b)
  opened : (zcm w i b).Closed = false
  got : (zcm w i b).Got.toNat < (zcm w i b).Said.length
  seen : (zcm w i b).Got + 1 ≤ zacq w i b
  text : (zcm w i b).Said.getD (zcm w i b).Got.toNat .empty = txt (zuy q)
  time : w.clock < (zcm w i b).Due.getD (zcm w i b).Got.toNat 0
  pk : zfj q = 0
theorem zai5 {w : Wld} (h : OkW w) (hd : w.deeds < 600) (d : Deed) {P : Wld → Reply → Prop}
    (hno : ∀ w' r, Alike w w' → r.Code ≠ 0 → P w' r)
    (hdel : d.Kind = 1 → (zcd w.p.Stake d.D d.V d.N).2 = 0 → P (zaoc w (zcd w.p.Stake d.D d.V d.N).1) ⟨0, 0⟩)
    (hund : d.Kind = 2 → (zbq w.p.Stake d.D d.V d.N (z78 w.p w.clock)).2 = 0 → P (za2u w (zbq w.p.Stake d.D d.V d.N (z78 w.p w.clock)).1) ⟨0, 0⟩)
    (hunj : d.Kind = 3 → (zcw w.p.Stake d.V 1).2 = 0 → P (zaoc w (zcw w.p.Stake d.V 1).1) ⟨0, 0⟩)
    (hevi : d.Kind = 13 → (0 ≤ d.V ∧ d.V < 6) → (1 ≤ d.N ∧ d.N ≤ w.p.Height) → w.p.Stake.Validators.Dead.get d.V = false → P (zaoc w (zcw (zi8 w.p.Stake d.V d.N 50).1 d.V 2).1) ⟨0, 0⟩)
    (htick : d.Kind = 5 → 1 ≤ d.N → d.N ≤ 1099511627736 - w.clock → P (zbdn w d.N) ⟨0, w.clock + d.N⟩)
    (hprov : d.Kind = 6 → P (za2v w) ⟨0, (((zo3 w.p w.clock).2.1.length : Nat) : Int)⟩)
    (hbeg : d.Kind = 4 → (0 ≤ d.C ∧ d.C < 2) → w.p.Links.Gone.get d.C = false → w.p.Links.On.get d.C = false → 1 ≤ w.p.Height → w.p.Set.length ≠ 0 → P (zbdo w d.C) ⟨0, w.p.Height⟩)
    (hcons : d.Kind = 7 → (0 ≤ d.C ∧ d.C < 2) → (zc w.consumers d.C).On = true → P (zbdq w d.C) ⟨0, 0⟩)
    (hseen : d.Kind = 8 → (0 ≤ d.C ∧ d.C < 2) → (zc w.consumers d.C).On = true → d.Back = true → P (zbdp w d.C) ⟨0, 0⟩)
    (hsee : d.Kind = 8 → (0 ≤ d.C ∧ d.C < 2) → (zc w.consumers d.C).On = true → d.Back = false → P (zak0 w d.C { zc w.consumers d.C with Seen := za2q w.heads d.C }) ⟨0, 0⟩)
    (hback : ∀ q, d.Kind = 9 → (0 ≤ d.C ∧ d.C < 2) → (zc w.consumers d.C).On = true → d.Back = true → zawd w d.C true q → q.Kind ≠ 1 → P (gotB w d.C q) ⟨0, (zc w.consumers d.C).Out.Got + 1⟩)
    (hforth : ∀ q, d.Kind = 9 → (0 ≤ d.C ∧ d.C < 2) → (zc w.consumers d.C).On = true → d.Back = false → zawd w d.C false q → q.Kind = 1 → P (gotF w d.C q) ⟨0, (zk w.p.Links d.C).Out.Got + 1⟩)
    (hlate : d.Kind = 10 → (0 ≤ d.C ∧ d.C < 2) → (zc w.consumers d.C).On = true → (zacr w d).2 = 0 → P (zbdr w d.C) ⟨0, 0⟩)
    (hsay : ∀ q f, (d.Kind = 11 ∨ d.Kind = 12) → (0 ≤ d.C ∧ d.C < 2) → (zc w.consumers d.C).On = true → zfj q = 0 → (q.Kind = 3 ∧ q.Id = (zc w.consumers d.C).Id ∨ q.Kind = 4 ∧ q.Id ≤ (zc w.consumers d.C).Id) → (zc w.consumers d.C).Out.Closed = false → (zc w.consumers d.C).Out.Said.length < 400 → P (zak0 w d.C (zbds w d.C q f)) ⟨0, 0⟩) :
    P (doW w d).1 (doW w d).2 := by
  have hm := zkl h hd
  have no : ∀ e : Int, e ≠ 0 → P (noW (zal w) e).1 (noW (zal w) e).2 := fun e he => hno _ _ (.more w) he
  unfold doW
  rw [if_neg (by omega)]
  unfold actW
  by_cases c1 : d.Kind = 1
  · rw [if_pos c1]
    unfold zpd
    have e : zdw (zal w).p d.D d.V d.N = zdw w.p d.D d.V d.N := rfl
    by_cases h0 : (zdw w.p d.D d.V d.N).2 = 0
    · rw [e, if_neg (by simpa using h0)]
      unfold zdw at h0 ⊢
      rw [if_pos h.pr] at h0 ⊢
      by_cases h1 : (zcd w.p.Stake d.D d.V d.N).2 = 0
      · rw [if_neg (by simpa using h1)]; exact hdel c1 h1
      · rw [if_pos h1] at h0; exact absurd h0 h1
    · rw [e, if_pos h0]; exact no _ h0
  rw [if_neg c1]
  by_cases c2 : d.Kind = 2
  · rw [if_pos c2]
    unfold zpd
    have e : zdo (zal w).p d.D d.V d.N (zal w).clock = zdo w.p d.D d.V d.N w.clock := rfl
    by_cases h0 : (zdo w.p d.D d.V d.N w.clock).2 = 0
    · rw [e, if_neg (by simpa using h0)]
      unfold zdo at h0 ⊢
      have ht : zav w.p = true ∧ 0 ≤ w.clock ∧ w.clock ≤ 1099511627776 := ⟨h.pr, h.t0, by have := h.t1; omega⟩
      rw [if_pos ht] at h0 ⊢
      by_cases h1 : (zbq w.p.Stake d.D d.V d.N (z78 w.p w.clock)).2 = 0
      · rw [if_neg (by simpa using h1)]; exact hund c2 h1
      · rw [if_pos h1] at h0; exact absurd h0 h1
    · rw [e, if_pos h0]; exact no _ h0
  rw [if_neg c2]
  by_cases c3 : d.Kind = 3
  · rw [if_pos c3]
    unfold zpd
    by_cases h0 : (zcw w.p.Stake d.V 1).2 = 0
    · rw [if_neg (by show ¬ (zcw w.p.Stake d.V 1).2 ≠ 0; simpa using h0)]; exact hunj c3 h0
    · rw [if_pos (by exact h0)]; exact no _ h0
  rw [if_neg c3]
  by_cases c13 : d.Kind = 13
  · rw [if_pos c13]
    unfold zpd
    have e : zys (zal w).p d.V d.N = zys w.p d.V d.N := rfl
    by_cases h0 : (zys w.p d.V d.N).2 = 0
    · rw [e, if_neg (by simpa using h0)]
      unfold zys at h0 ⊢
      rw [if_neg (by rw [h.pr]; simp)] at h0 ⊢
      by_cases h1 : 0 ≤ d.V ∧ d.V < 6
      · rw [if_pos h1] at h0 ⊢
        by_cases h2 : 1 ≤ d.N ∧ d.N ≤ w.p.Height
        · rw [if_pos h2] at h0 ⊢
          by_cases h3 : w.p.Stake.Validators.Dead.get d.V = true
          · rw [if_pos h3] at h0; cases h0
          · rw [if_neg h3]; exact hevi c13 h1 h2 (Bool.eq_false_iff.2 h3)
        · rw [if_neg h2] at h0; cases h0
      · rw [if_neg h1] at h0; cases h0
    · rw [e, if_pos h0]; exact no _ h0
  rw [if_neg c13]
  by_cases c5 : d.Kind = 5
  · rw [if_pos c5]
    unfold zag5
    by_cases h0 : d.N < 1 ∨ 1099511627736 - w.clock < d.N
    · rw [if_pos (by exact h0)]; exact no _ (by omega)
    · rw [if_neg (by exact h0)]; exact htick c5 (by omega) (by omega)
  rw [if_neg c5]
  by_cases c6 : d.Kind = 6
  · rw [if_pos c6]
    have ht : zav w.p = true ∧ w.p.Time ≤ w.clock ∧ w.clock ≤ 1099511627776 := ⟨h.pr, h.pt, by have := h.t1; omega⟩
    unfold zmp
    rw [if_neg (by show ¬ (zo3 w.p w.clock).2.2 ≠ 0; rw [zan0 ht]; simp)]
    exact hprov c6
  rw [if_neg c6]
  unfold zmq
  by_cases b1 : d.Kind < 4 ∨ 12 < d.Kind
  · rw [if_pos b1]; exact no _ (by omega)
  rw [if_neg b1]
  by_cases b2 : d.C < 0 ∨ 2 ≤ d.C
  · rw [if_pos b2]; exact no _ (by omega)
  rw [if_neg b2]
  have hi : 0 ≤ d.C ∧ d.C < 2 := by omega
  by_cases b3 : d.Kind ≠ 4 ∧ (zal w).consumers.On.get d.C = false
  · rw [if_pos b3]; exact no _ (by omega)
  rw [if_neg b3]
  by_cases b4 : d.Kind = 4
  · rw [if_pos b4]
    unfold z3i
    have e : zev (zal w).p d.C = zev w.p d.C := rfl
    rw [e]
    by_cases h0 : (zev w.p d.C).2 = 0
    · obtain ⟨f1, _, f3, f4, f5, f6, f7⟩ := z1i h0
      rw [if_neg (by simpa using h0), f7]
      exact hbeg b4 hi f3 f4 f5 f6
    · rw [if_pos h0]; exact no _ h0
  rw [if_neg b4]
  have ho : (zc w.consumers d.C).On = true := by
    cases e : (zc w.consumers d.C).On with
    | true => rfl
    | false => exact absurd ⟨b4, e⟩ b3
  have hw := h.c d.C hi
  have hh := hw.height
  by_cases b7 : d.Kind = 7
  · rw [if_pos b7]
    obtain ⟨e0, -⟩ := z4a (now := w.clock) hw.good ho ⟨hw.time, by have := h.t1; omega⟩ (by omega)
    unfold zwg
    rw [if_neg (by show ¬ (endC w.clock (zc w.consumers d.C)).2 ≠ 0; rw [e0]; simp)]
    exact hcons b7 hi ho
  rw [if_neg b7]
  by_cases b8 : d.Kind = 8
  · rw [if_pos b8]
    unfold z8e
    cases hb : d.Back with
    | true => rw [if_pos rfl]; exact hseen b8 hi ho hb
    | false => rw [if_neg (by simp)]; exact hsee b8 hi ho hb
  rw [if_neg b8]
  by_cases b9 : d.Kind = 9
  · rw [if_pos b9]
    unfold zoe
    have e1 : zni (zal w) d = zni w d := rfl
    rw [e1]
    by_cases h0 : (zni w d).2 = 0
    · obtain ⟨f1, f2, f3, f4, f5, f6, f7, f8⟩ := z4b h0
      rw [if_neg (by simpa using h0)]
      have hg0 : 0 ≤ (zcm w d.C d.Back).Got := f1.2.2.1
      have hmem : ∃ q, zfj q = 0 ∧ (zcm w d.C d.Back).Said.getD (zcm w d.C d.Back).Got.toNat .empty = txt (zuy q) := by
        have hm := zgu (l := (zcm w d.C d.Back).Said) (k := (zcm w d.C d.Back).Got.toNat) (by omega) .empty
        generalize (zcm w d.C d.Back).Said.getD (zcm w d.C d.Back).Got.toNat .empty = s at hm
        cases hb : d.Back with
        | true => rw [hb] at hm; obtain ⟨q, q1, _, q2⟩ := hw.said s hm; exact ⟨q, q1, q2⟩
        | false => rw [hb] at hm; obtain ⟨q, q1, _, q2⟩ := hw.told s hm; exact ⟨q, q1, q2⟩
      obtain ⟨q, q1, q2⟩ := hmem
      have ht : (zkz (zcm w d.C d.Back) d.Forged).data.toList = zuy q := by rw [f5, q2, z30]
      have hcm : zawd w d.C d.Back q := ⟨f1, f2, by omega, f4, q2, f6, q1⟩
      cases hb : d.Back with
      | true =>
        rw [hb] at ht hcm f7
        rw [if_pos rfl]
        have e2 : zpp (zal w).p d.C (zkz (zcm (zal w) d.C true) d.Forged).data.toList = zpp w.p d.C (zuy q) := by rw [← ht]; rfl
        rw [e2]
        by_cases h1 : (zpp w.p d.C (zuy q)).2 = 0
        · obtain ⟨_, _, _, q4, _, q6, _⟩ := z5c h.pr h1
          rw [zams q1] at q4 q6
          rw [if_neg (by simpa using h1), q6, f7]
          exact hback q b9 hi ho hb hcm q4
        · rw [if_pos h1]; exact no _ h1
      | false =>
        rw [hb] at ht hcm f7
        rw [if_neg (show ¬ (false = true) by simp)]
        have e2 : zyq (zc (zal w).consumers d.C) (zkz (zcm (zal w) d.C false) d.Forged).data.toList = zyq (zc w.consumers d.C) (zuy q) := by rw [← ht]; rfl
        rw [e2]
        by_cases h1 : (zyq (zc w.consumers d.C) (zuy q)).2 = 0
        · obtain ⟨_, _, q4, _, q6, _⟩ := z8l hw.good h1
          rw [zams q1] at q4 q6
          rw [if_neg (by simpa using h1), q6, f7]
          exact hforth q b9 hi ho hb hcm q4
        · rw [if_pos h1]; exact no _ h1
    · rw [if_pos h0]; exact no _ h0
  rw [if_neg b9]
  by_cases b10 : d.Kind = 10
  · rw [if_pos b10]
    unfold zwh
    have e1 : zacr (zal w) d = zacr w d := rfl
    rw [e1]
    by_cases h0 : (zacr w d).2 = 0
    · obtain ⟨f1, f2⟩ := zae3 h hi ho
      have e2 : zwf (zal w).p d.C = zwe w.p d.C := f1
      have e3 : z1f (zc (zal w).consumers d.C) = { zc w.consumers d.C with On := false, Gone := true, Out := { (zc w.consumers d.C).Out with Closed := true } } := f2
      rw [if_neg (by simpa using h0), e2, e3]
      exact hlate b10 hi ho h0
    · rw [if_pos h0]; exact no _ h0
  rw [if_neg b10]
  have hw40 : IntKind.i64.wrap (w.clock + 40) = w.clock + 40 := zp (by have := h.t0; omega) (by have := h.t1; omega)
  by_cases b11 : d.Kind = 11
  · rw [if_pos b11]
    unfold putW
    have e1 : z75 (zc (zal w).consumers d.C) d.V (zal w).clock = z75 (zc w.consumers d.C) d.V w.clock := rfl
    rw [e1]
    by_cases h0 : (z75 (zc w.consumers d.C) d.V w.clock).2 = 0
    · obtain ⟨_, _, _, _, _, _, _, hs, he⟩ := zain h0
      obtain ⟨s1, s2, s3, s4, s5, s6⟩ := z8k hw.good (by simp) hs
      rw [if_neg (by simpa using h0), he, s5, hw40]
      exact hsay _ _ (.inl b11) hi ho s1 (.inl ⟨rfl, rfl⟩) s3 s4
    · rw [if_pos h0]; exact no _ h0
  rw [if_neg b11]
  by_cases b12 : d.Kind = 12
  · rw [if_pos b12]
    unfold putW
    have e1 : ztu (zc (zal w).consumers d.C) d.V d.N (zal w).clock = ztu (zc w.consumers d.C) d.V d.N w.clock := rfl
    rw [e1]
    by_cases h0 : (ztu (zc w.consumers d.C) d.V d.N w.clock).2 = 0
    · rw [if_neg (by simpa using h0)]
      unfold ztu at h0 ⊢
      by_cases h1 : zld (zc w.consumers d.C) = false ∨ w.clock < 0 ∨ 1099511627776 < w.clock
      · rw [if_pos h1] at h0; cases h0
      rw [if_neg h1] at h0 ⊢
      by_cases h2 : (zc w.consumers d.C).On = false ∨ d.V < 0 ∨ 5 < d.V
      · rw [if_pos h2] at h0; cases h0
      rw [if_neg h2] at h0 ⊢
      by_cases h3 : d.N < 1 ∨ (zc w.consumers d.C).Id < d.N
      · rw [if_pos h3] at h0; cases h0
      rw [if_neg h3] at h0 ⊢
      obtain ⟨s1, s2, s3, s4, s5, s6⟩ := z8k hw.good (q := ⟨4, d.N, d.V, maxC (zc w.consumers d.C) d.V, [], []⟩) (by simp) h0
      rw [s5, hw40]
      exact hsay ⟨4, d.N, d.V, maxC (zc w.consumers d.C) d.V, [], []⟩ (zc w.consumers d.C).Flags (.inr b12) hi ho s1 (.inr ⟨rfl, by show d.N ≤ _; omega⟩) s3 s4
    · rw [if_pos h0]; exact no _ h0
  · omega
end Go.Proofs.YtmakmlnfbdablaaGreat.Ab
namespace Go.Proofs.YtmakmlnfbdablaaGreat.Ab
open Go Go.RowKit
set_option linter.unusedVariables false
set_option linter.unusedSimpArgs false
theorem OkW.cfit {w : Wld} (h : OkW w) {i : Int} (hi : 0 ≤ i ∧ i < 2) : FitC 140737488351232 (zc w.consumers i) := (h.c i hi).fit h.d1
theorem z1j {w : Wld} (h : OkW w) : zi w = some (w.p, w) := zae5 h.fit
theorem ztw {w : Wld} (h : OkW w) {i : Int} (hi : 0 ≤ i ∧ i < 2) : zg i w = some (zc w.consumers i, w) := by
  rw [zae6 fun hi => h.cfit hi, if_pos hi]
theorem z53 : zk9 = some true := by
  obtain ⟨e1, e2, e3⟩ := do_4
  rw [zk9, zvr, Tr.run_bind zacu, Tr.run_bind (z8m z8f (by decide)), do_1, Tr.run_bind (z8m okW1 (by decide)), do_2, Tr.run_bind (z8m okW2 (by decide)), do_3, Tr.run_bind (z8m okW3 (by decide))]
  simp only [e1]
  rw [Tr.run_true (by rfl), Tr.run_bind (zacv _), Tr.run_true (by rw [e2]; rfl), Tr.run_bind (ztw okW4 (by omega)), Tr.run_leaf, e3]
  rfl
theorem zae8 {σ ρ τ : Type} {F : σ → Option (σ ⊕ ρ)} (n : Nat) (mk : Nat → τ → σ) (I : Nat → τ → Prop) (out : τ → ρ)
    (hend : ∀ t, I n t → F (mk n t) = some (.inr (out t))) (hstep : ∀ i t, i < n → I i t → ∃ t', F (mk i t) = some (.inl (mk (i + 1) t')) ∧ I (i + 1) t') {t : τ} (h0 : I 0 t) : ∃ t', zd5 F (mk 0 t) = some (out t') ∧ I n t' := by
  obtain ⟨r, h1, t', h2, h3⟩ := zie (F := F) n mk I (fun _ _ r => ∃ t', r = out t' ∧ I n t') (fun t h => ⟨out t, hend t h, t, rfl, h⟩) (fun i t hi h => by
    obtain ⟨t', k1, k2⟩ := hstep i t hi h
    exact .inl ⟨t', k1, k2, fun r hr => hr⟩) 0 t (Nat.zero_le _) h0
  exact ⟨t', by rw [h1, h2], h3⟩
def zw8 (l : List Deed) : Nat := min l.length 120
theorem zae9 {l : List Deed} : ((decide (((zw8 l : Nat) : Int) < ((l.length : Nat) : Int))) && (decide (((zw8 l : Nat) : Int) < 120))) = false := by
  unfold zw8
  rw [Bool.and_eq_false_iff, decide_eq_false_iff_not, decide_eq_false_iff_not]
  omega
theorem zafa {l : List Deed} {i : Nat} (h : i < zw8 l) : ((decide ((i : Int) < ((l.length : Nat) : Int))) && (decide ((i : Int) < 120))) = true := by
  unfold zw8 at h
  rw [Bool.and_eq_true, decide_eq_true_eq, decide_eq_true_eq]
  omega
theorem zai6 {l : List Deed} {i : Nat} (h : i < zw8 l) : i < l.length := by unfold zw8 at h; omega
theorem zcn (l : List Deed) : Sl.len (.deeds l) = l.length := rfl
def z5m (l : List Deed) : Prop := l.length ≤ 4611686018427387904 ∧ ∀ d, d ∈ l → d.N ≤ 9223372036854775807
theorem zarf (d : Deed) (r : Reply) (w : Wld) : zid d r w = some (true, w) := by rw [zid, zvt, Tr.run_leaf]
noncomputable def zarg (look : Deed → Reply → Wld → Option (Bool × Wld)) (x0 : List Deed) (x1 : Int) (x2 : Wld) : Tr (((List Deed) × Int × Wld) ⊕ ((Bool × Wld) ⊕ (Wld))) :=
  (.ite ((decide (x1 < ((x0.length : Nat) : Int))) && (decide (x1 < 120)))
    (.guard ((0 : Int) ≤ x1 ∧ x1 < ((Sl.len (.deeds x0) : Nat) : Int))
    (.bind (zd (x0.getD x1.toNat default) x2) fun v3 =>
    (.guard ((0 : Int) ≤ x1 ∧ x1 < ((Sl.len (.deeds x0) : Nat) : Int))
    (.guard ((look (x0.getD x1.toNat default) v3.1 v3.2).isSome = true)
    (.ite (!((look (x0.getD x1.toNat default) v3.1 v3.2).getD default).1)
      (.leaf (.inr (.inl (false, ((look (x0.getD x1.toNat default) v3.1 v3.2).getD default).2))))
      (.leaf (.inl (x0, IntKind.i64.wrap (x1 + 1), ((look (x0.getD x1.toNat default) v3.1 v3.2).getD default).2))))))))
    (.leaf (.inr (.inr x2))))
theorem zai7 {w : Wld} (d : Deed) (h : w.deeds < 600) : (doW w d).1.deeds = w.deeds + 1 := by
  have hp : ∀ r, (zpd (zal w) r).1.deeds = w.deeds + 1 := by intro r; unfold zpd; split <;> rfl
  have hq : ∀ i r, (putW (zal w) i r).1.deeds = w.deeds + 1 := by intro i r; unfold putW; split <;> rfl
  unfold doW
  rw [if_neg (by omega)]
  unfold actW
  repeat' split
  · exact hp _
  · exact hp _
  · exact hp _
  · exact hp _
  · unfold zag5; split <;> rfl
  · unfold zmp; split <;> rfl
  · unfold zmq
    repeat' split
    · rfl
    · rfl
    · rfl
    · unfold z3i; split <;> rfl
    · unfold zwg; split <;> rfl
    · unfold z8e; split <;> rfl
    · unfold zoe; repeat' split
      all_goals rfl
    · unfold zwh; split <;> rfl
    · exact hq _ _
    · exact hq _ _
    · rfl
theorem zak1 {look : Deed → Reply → Wld → Option (Bool × Wld)} (J : Wld → Prop) (h0 : J newW) {l : List Deed} (hl : z5m l)
    (hstep : ∀ w d, OkW w → J w → w.deeds < 120 → J (doW w d).1 ∧ look d (doW w d).2 (doW w d).1 = some (true, (doW w d).1)) :
    ∃ w, zd5 (fun s : (List Deed) × Int × Wld => (zarg look s.1 s.2.1 s.2.2).run) (l, 0, newW) = some (.inr w) ∧ OkW w ∧ J w ∧ w.deeds = zw8 l := by
  have := zae8 (F := fun s : (List Deed) × Int × Wld => (zarg look s.1 s.2.1 s.2.2).run) (zw8 l) (fun i (w : Wld) => (l, (i : Int), w)) (fun i w => OkW w ∧ J w ∧ w.deeds = i) (fun w => .inr w) ?_ ?_ (t := newW) ⟨z8f, h0, rfl⟩
  · exact this
  · rintro w ⟨h, _, _⟩
    simp only [zarg]
    rw [Tr.run_false zae9, Tr.run_leaf]
  · rintro i w hi ⟨h, hj, hd⟩
    have hlt := zai6 hi
    have hn := hl.2 _ (zgu (l := l) (k := i) hlt default)
    have ho := z3k h (l.getD i default)
    have h120 : w.deeds < 120 := by unfold zw8 at hi; omega
    obtain ⟨j1, j2⟩ := hstep w (l.getD i default) h hj h120
    refine ⟨(doW w (l.getD i default)).1, ?_, ho, j1, by rw [zai7 _ (by omega), hd]; omega⟩
    simp only [zarg]
    rw [Int.toNat_natCast, Tr.run_true (zafa hi), Tr.run_guard ⟨by omega, by rw [zcn]; omega⟩, Tr.run_bind (z8m h hn), Tr.run_guard ⟨by omega, by rw [zcn]; omega⟩, j2, Tr.run_guard (by rfl), Tr.run_false (by rfl), Tr.run_leaf, z6 (by have := hl.1; omega)]
    rfl
theorem zyt {l : List Deed} (hl : z5m l) : ∃ w, zmi l = some (true, w) ∧ OkW w ∧ w.deeds = zw8 l := by
  obtain ⟨w, h1, h2, -, h3⟩ := zak1 (look := zid) (fun _ => True) trivial hl (fun w d h _ _ => ⟨trivial, zarf d _ _⟩)
  have h1 : zw0 l 0 newW = some (.inr w) := h1
  exact ⟨w, by rw [zmi, ztc, Tr.run_bind z53, Tr.run_false (by rfl), Tr.run_bind zacu, Tr.run_inr h1, Tr.run_leaf], h2, h3⟩
end Go.Proofs.YtmakmlnfbdablaaGreat.Ab
namespace Go.Proofs.YtmakmlnfbdablaaGreat.Ab
open Go Go.RowKit
set_option linter.unusedVariables false
set_option linter.unusedSimpArgs false
theorem zd9 {w : Wld} {e : Int} : (noW (zal w) e).2.N = 0 ∧ Alike w (noW (zal w) e).1 := ⟨rfl, rfl, rfl, rfl⟩
theorem zaao {w : Wld} {d : Deed} (h : (doW w d).2.Code ≠ 0) : (doW w d).2.N = 0 ∧ Alike w (doW w d).1 := by
  have hp : ∀ r, (zpd (zal w) r).2.Code ≠ 0 → (zpd (zal w) r).2.N = 0 ∧ Alike w (zpd (zal w) r).1 := by
    intro r h; unfold zpd at h ⊢
    split
    · exact zd9
    · rename_i k; rw [if_neg k] at h; exact absurd rfl h
  have hq : ∀ i r, (putW (zal w) i r).2.Code ≠ 0 → (putW (zal w) i r).2.N = 0 ∧ Alike w (putW (zal w) i r).1 := by
    intro i r h; unfold putW at h ⊢
    split
    · exact zd9
    · rename_i k; rw [if_neg k] at h; exact absurd rfl h
  unfold doW at h ⊢
  by_cases h0 : 600 ≤ w.deeds
  · rw [if_pos h0]; exact ⟨rfl, rfl, rfl, rfl⟩
  rw [if_neg h0] at h ⊢
  unfold actW at h ⊢
  by_cases c1 : d.Kind = 1
  · rw [if_pos c1] at h ⊢; exact hp _ h
  rw [if_neg c1] at h ⊢
  by_cases c2 : d.Kind = 2
  · rw [if_pos c2] at h ⊢; exact hp _ h
  rw [if_neg c2] at h ⊢
  by_cases c3 : d.Kind = 3
  · rw [if_pos c3] at h ⊢; exact hp _ h
  rw [if_neg c3] at h ⊢
  by_cases c13 : d.Kind = 13
  · rw [if_pos c13] at h ⊢; exact hp _ h
  rw [if_neg c13] at h ⊢
  by_cases c5 : d.Kind = 5
  · rw [if_pos c5] at h ⊢
    unfold zag5 at h ⊢
    split
    · exact zd9
    · rename_i k; rw [if_neg k] at h; exact absurd rfl h
  rw [if_neg c5] at h ⊢
  by_cases c6 : d.Kind = 6
  · rw [if_pos c6] at h ⊢
    unfold zmp at h ⊢
    split
    · exact zd9
    · rename_i k; rw [if_neg k] at h; exact absurd rfl h
  rw [if_neg c6] at h ⊢
  unfold zmq at h ⊢
  by_cases b1 : d.Kind < 4 ∨ 12 < d.Kind
  · rw [if_pos b1]; exact zd9
  rw [if_neg b1] at h ⊢
  by_cases b2 : d.C < 0 ∨ 2 ≤ d.C
  · rw [if_pos b2]; exact zd9
  rw [if_neg b2] at h ⊢
  by_cases b3 : d.Kind ≠ 4 ∧ (zal w).consumers.On.get d.C = false
  · rw [if_pos b3]; exact zd9
  rw [if_neg b3] at h ⊢
  by_cases b4 : d.Kind = 4
  · rw [if_pos b4] at h ⊢
    unfold z3i at h ⊢
    split
    · exact zd9
    · rename_i k; rw [if_neg k] at h; exact absurd rfl h
  rw [if_neg b4] at h ⊢
  by_cases b7 : d.Kind = 7
  · rw [if_pos b7] at h ⊢
    unfold zwg at h ⊢
    split
    · exact zd9
    · rename_i k; rw [if_neg k] at h; exact absurd rfl h
  rw [if_neg b7] at h ⊢
  by_cases b8 : d.Kind = 8
  · rw [if_pos b8] at h
    unfold z8e at h
    split at h <;> exact absurd rfl h
  rw [if_neg b8] at h ⊢
  by_cases b9 : d.Kind = 9
  · rw [if_pos b9] at h ⊢
    unfold zoe at h ⊢
    split
    · exact zd9
    · rename_i k
      rw [if_neg k] at h
      split
      · rename_i k2
        rw [if_pos k2] at h
        split
        · exact zd9
        · rename_i k3; rw [if_neg k3] at h; exact absurd rfl h
      · rename_i k2
        rw [if_neg k2] at h
        split
        · exact zd9
        · rename_i k3; rw [if_neg k3] at h; exact absurd rfl h
  rw [if_neg b9] at h ⊢
  by_cases b10 : d.Kind = 10
  · rw [if_pos b10] at h ⊢
    unfold zwh at h ⊢
    split
    · exact zd9
    · rename_i k; rw [if_neg k] at h; exact absurd rfl h
  rw [if_neg b10] at h ⊢
  by_cases b11 : d.Kind = 11
  · rw [if_pos b11] at h ⊢; exact hq _ _ h
  rw [if_neg b11] at h ⊢
  by_cases b12 : d.Kind = 12
  · rw [if_pos b12] at h ⊢; exact hq _ _ h
  rw [if_neg b12] at h ⊢
  exact absurd rfl h
theorem zyu {l : List Power} (hl : l.length ≤ 9223372036854775807) : zaz l l = some true := by
  have loop : zjd l l 0 = some (.inr ()) := by
    rw [zjd]
    have := zql (F := fun s : (List Power) × (List Power) × Int => (zef s.1 s.2.1 s.2.2).run) l default (fun i => (l, l, (i : Int))) (fun _ => true) false () (by
        simp only [zef]; rw [Tr.run_false (by simp), Tr.run_leaf]) (by
        intro i hi _
        simp only [zef, Int.toNat_natCast]
        rw [Tr.run_true (by simpa using hi), Tr.run_guard ⟨by omega, by rw [zbe]; omega⟩, Tr.run_guard ⟨by omega, by rw [zbe]; omega⟩, Tr.run_false (by simp), Tr.run_leaf, z6 (by omega)]) (by intro i hi h; cases h)
    rw [if_pos (by simp)] at this
    exact this
  rw [zaz, zkf, Tr.run_false (by simp), Tr.run_inr loop, Tr.run_leaf]
theorem zaap {l : zbk} (h1 : l.Said.length ≤ 9223372036854775807) (h2 : l.Due.length ≤ 9223372036854775807) : zf7 l l = some true := by
  have a1 : zme l.Said.length 0 l l = some (.inr (l, l)) := by
    rw [zme]
    have := zql (F := fun s : Int × Int × zbk × zbk => (zf5 s.1 s.2.1 s.2.2.1 s.2.2.2).run) l.Said default (fun i => ((l.Said.length : Int), (i : Int), l, l)) (fun _ => true) false (l, l) (by
        simp only [zf5]; rw [Tr.run_false (by simp), Tr.run_leaf]) (by
        intro i hi _
        simp only [zf5, Int.toNat_natCast]
        rw [Tr.run_true (by simpa using hi), Tr.run_guard ⟨by omega, by show (i : Int) < ((l.Said.length : Nat) : Int); omega⟩, Tr.run_guard ⟨by omega, by show (i : Int) < ((l.Said.length : Nat) : Int); omega⟩, Tr.run_false (by simp), Tr.run_leaf, z6 (by omega)]) (by intro i hi h; cases h)
    rw [if_pos (by simp)] at this
    exact this
  have a2 : zmf l.Due.length 0 l l = some (.inr ()) := by
    rw [zmf]
    have := zql (F := fun s : Int × Int × zbk × zbk => (zf6 s.1 s.2.1 s.2.2.1 s.2.2.2).run) l.Due default (fun i => ((l.Due.length : Int), (i : Int), l, l)) (fun _ => true) false () (by
        simp only [zf6]; rw [Tr.run_false (by simp), Tr.run_leaf]) (by
        intro i hi _
        simp only [zf6, Int.toNat_natCast]
        rw [Tr.run_true (by simpa using hi), Tr.run_guard ⟨by omega, by rw [zkv]; omega⟩, Tr.run_guard ⟨by omega, by rw [zkv]; omega⟩, Tr.run_false (by simp), Tr.run_leaf, z6 (by omega)]) (by intro i hi h; cases h)
    rw [if_pos (by simp)] at this
    exact this
  rw [zf7, zn8, Tr.run_false (by simp), Tr.run_inr a1]
  simp only []
  rw [Tr.run_inr a2, Tr.run_leaf]
theorem zaaq {p : za} (hf : FitPr 140737488351232 p) : z7 p p = some true := by
  have hs := hf.set; have hw := hf.waits
  have a1 : zhe p.Stake.Waits.length 0 p p = some (.inr (p, p)) := by
    rw [zhe]
    have := zql (F := fun s : Int × Int × za × za => (zdm s.1 s.2.1 s.2.2.1 s.2.2.2).run) p.Stake.Waits default (fun i => ((p.Stake.Waits.length : Int), (i : Int), p, p)) (fun _ => true) false (p, p) (by
        simp only [zdm]; rw [Tr.run_false (by simp), Tr.run_leaf]) (by
        intro i hi _
        simp only [zdm, Int.toNat_natCast]
        rw [Tr.run_true (by simpa using hi), Tr.run_guard ⟨by omega, by rw [zbs]; omega⟩, Tr.run_guard ⟨by omega, by rw [zbs]; omega⟩, Tr.run_false (by simp), Tr.run_leaf, z6 (by omega)]) (by intro i hi h; cases h)
    rw [if_pos (by simp)] at this
    exact this
  have turn : ∀ (c : Nat), c < 2 → (zb2 (c : Int) p p).run = some (.inl (((c + 1 : Nat) : Int), p, p)) := by
    intro c hc
    have e1 := zyu (l := p.Links.Told.get c) (by have := hf.told c; omega)
    have e2 := zaap (l := (zk p.Links c).Out) (by have := hf.said c; show (p.Links.Said.get c).length ≤ _; omega) (by have := hf.due c; show (p.Links.Due.get c).length ≤ _; omega)
    simp only [zb2]
    rw [Tr.run_true (by simp; omega), Tr.run_guard ⟨by omega, by omega⟩, Tr.run_guard ⟨by omega, by omega⟩, e1, e2, Tr.run_guard (fun _ => ⟨rfl, trivial⟩), Tr.run_guard (fun _ => ⟨rfl, trivial⟩), Tr.run_false (by simp), Tr.run_leaf, z6 (by omega)]
  have a2 : zhf 0 p p = some (.inr ()) := by
    rw [zhf, zcv (s' := (((1 : Nat) : Int), p, p)) (turn 0 (by omega)), zcv (s' := (((2 : Nat) : Int), p, p)) (turn 1 (by omega)), ze8 (r := .inr ()) (by
      show (zb2 2 p p).run = _
      simp only [zb2]
      rw [Tr.run_false (by simp), Tr.run_leaf])]
  rw [z7, zho, zyu (l := p.Set) (by omega), Tr.run_guard (fun _ => ⟨rfl, trivial⟩), Tr.run_false (by simp), Tr.run_inr a1]
  simp only []
  rw [Tr.run_inr a2, Tr.run_leaf]
theorem z4d {c : zb} (hf : FitC 140737488351232 c) : z8 c c = some true := by
  have hs := hf.set; have h1 := hf.said; have h2 := hf.due
  rw [z8, zhp, zyu (l := c.Set) (by omega), zaap (l := c.Out) (by omega) (by omega), Tr.run_guard (fun _ => ⟨rfl, trivial⟩), Tr.run_guard (fun _ => ⟨rfl, trivial⟩), Tr.run_leaf]
  simp
theorem zacw {l : List Deed} (hl : z5m l) {d : Deed} (hd : d.N ≤ 9223372036854775807) : zi0 l d = some true := by
  obtain ⟨w, h1, h2, h3⟩ := zyt hl
  have ho := z3k h2 d
  have i0 : (0 : Int) ≤ 0 ∧ (0 : Int) < 2 := by omega
  have i1 : (0 : Int) ≤ 1 ∧ (1 : Int) < 2 := by omega
  rw [zi0, zkj, Tr.run_bind h1, Tr.run_false (by rfl), Tr.run_bind (z1j h2), Tr.run_bind (ztw h2 i0), Tr.run_bind (ztw h2 i1), Tr.run_bind (zacv w), Tr.run_bind (z8m h2 hd)]
  by_cases hc : (doW w d).2.Code = 0
  · rw [Tr.run_true (by simpa using hc), Tr.run_leaf]
  · obtain ⟨k1, k2, k3, k4⟩ := zaao hc
    have e0 : zc (doW w d).1.consumers 0 = zc w.consumers 0 := by rw [k3]
    have e1 : zc (doW w d).1.consumers 1 = zc w.consumers 1 := by rw [k3]
    rw [Tr.run_false (by simpa using hc), Tr.run_bind (z1j ho), Tr.run_bind (ztw ho i0), Tr.run_bind (ztw ho i1), Tr.run_true (by simpa using k1), Tr.run_bind (zacv _)]
    simp only [k2, e0, e1, zaaq h2.fit, z4d (h2.cfit i0), z4d (h2.cfit i1), Option.isSome_some, Option.getD_some]
    rw [Tr.run_guard (fun _ => ⟨trivial, trivial⟩), Tr.run_guard (fun _ => ⟨trivial, trivial⟩), Tr.run_guard (fun _ => ⟨trivial, trivial⟩), Tr.run_leaf, k4]
    simp
theorem zawe {w : Wld} (h : w.deeds < 600) : doW w ⟨0, 0, 0, 0, 0, false, false⟩ = (zal w, ⟨3, 0⟩) := by
  unfold doW
  rw [if_neg (by omega)]
  rfl
theorem zak2 {l : List Deed} (hl : z5m l) {d : Deed} (hd : d.N ≤ 9223372036854775807) : zoc l d = some true := by
  obtain ⟨w, h1, h2, h3⟩ := zyt hl
  have i0 : (0 : Int) ≤ 0 ∧ (0 : Int) < 2 := by omega
  have loop : ∀ (k : Nat) (n : Nat) (w : Wld), OkW w → w.deeds = n → n + k = 600 → ∃ w', zf9 n d w = some (.inr (d, w')) ∧ OkW w' ∧ w'.deeds = 600 := by
    intro k
    induction k with
    | zero =>
      intro n w h e he
      refine ⟨w, ?_, h, by omega⟩
      rw [zf9]
      refine ze8 ?_
      simp only [zkk]
      rw [Tr.run_false (by simp; omega), Tr.run_leaf]
    | succ k ih =>
      intro n w h e he
      obtain ⟨w', k1, k2, k3⟩ := ih (n + 1) (zal w) (zkl h (by omega)) (by show w.deeds + 1 = _; omega) (by omega)
      refine ⟨w', ?_, k2, k3⟩
      rw [← k1, zf9, zf9]
      refine zcv ?_
      simp only [zkk]
      rw [Tr.run_true (by simp; omega), Tr.run_bind (z8m h (by decide)), zawe (by omega), Tr.run_false (by rfl), Tr.run_leaf, z6 (by omega)]
  have hm : (if 120 < ((l.length : Nat) : Int) then 120 else ((l.length : Nat) : Int)) = ((zw8 l : Nat) : Int) := by unfold zw8; split <;> omega
  obtain ⟨w', k1, k2, k3⟩ := loop (600 - zw8 l) (zw8 l) w h2 h3 (by unfold zw8; omega)
  have hdo : doW w' d = (w', ⟨6, 0⟩) := by unfold doW; rw [if_pos (by omega)]; rfl
  have p1 : z8o 109 w' (zi w') = some (w'.p, w') := zaar (z1j k2)
  have p2 : z8o 109 w' (zg 0 w') = some (zc w'.consumers 0, w') := zaar (ztw k2 i0)
  rw [zoc, zqk, Tr.run_bind h1, Tr.run_false (by rfl), hm, Tr.run_inr k1, Tr.run_bind p1, Tr.run_bind p2]
  simp only [z8m k2 hd, hdo, p1, p2, zaaq k2.fit, z4d (k2.cfit i0), Option.isSome_some, Option.getD_some]
  repeat rw [Tr.run_guard (by simp)]
  rw [Tr.run_leaf]
  simp
end Go.Proofs.YtmakmlnfbdablaaGreat.Ab
