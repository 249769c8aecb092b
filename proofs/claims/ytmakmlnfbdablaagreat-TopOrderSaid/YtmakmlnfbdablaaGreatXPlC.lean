/-
  The plain lemmas.
-/
import Derived.Test.YtmakmlnfbdablaaGreatXFCodec
import Derived.Test.YtmakmlnfbdablaaGreatXFLine
import Derived.Test.YtmakmlnfbdablaaGreatXFTop
import Derived.Test.YtmakmlnfbdablaaGreatXFWld
import Derived.Test.YtmakmlnfbdablaaGreatXPlB
namespace Go.Proofs.YtmakmlnfbdablaaGreat.Ab
open Go Go.RowKit
set_option linter.unusedVariables false
set_option linter.unusedSimpArgs false
theorem zafb {w : Wld} {c : Int} {b : Bool} (hi : 0 ≤ c ∧ c < 2) (h : (doW w ⟨9, c, 0, 0, 0, b, true⟩).2.Code = 0) :
    (zcm w c b).Got < (((zcm w c b).Said.length : Nat) : Int) ∧ (zga (zae0 ((zcm w c b).Said.getD (zcm w c b).Got.toNat .empty).size)).1 = (zcm w c b).Said.getD (zcm w c b).Got.toNat .empty := by
  unfold doW at h
  by_cases h0 : 600 ≤ w.deeds
  · rw [if_pos h0] at h; cases h
  rw [if_neg h0] at h
  have e : actW (zal w) ⟨9, c, 0, 0, 0, b, true⟩ = zmq (zal w) ⟨9, c, 0, 0, 0, b, true⟩ := rfl
  rw [e] at h
  unfold zmq at h
  rw [if_neg (by simp only []; omega), if_neg (by simp only []; omega)] at h
  by_cases b3 : (9 : Int) ≠ 4 ∧ (zal w).consumers.On.get c = false
  · rw [if_pos b3] at h; cases h
  rw [if_neg b3, if_neg (by simp only []; omega), if_neg (by simp only []; omega), if_neg (by simp only []; omega), if_pos rfl] at h
  have hz : (zni w ⟨9, c, 0, 0, 0, b, true⟩).2 = 0 := by
    rcases Classical.em ((zni w ⟨9, c, 0, 0, 0, b, true⟩).2 = 0) with k | k
    · exact k
    · unfold zoe at h
      rw [if_pos (by exact k)] at h
      exact absurd h k
  obtain ⟨f1, f2, f3, f4, f5, -⟩ := z4b hz
  simp only [] at f3 f5
  have hg : (zcm w c b).Got < (((zcm w c b).Said.length : Nat) : Int) := by omega
  have ht : zkz (zcm w c b) true = (zga (zae0 ((zcm w c b).Said.getD (zcm w c b).Got.toNat .empty).size)).1 := by
    unfold zkz zakn
    rw [if_pos rfl, if_pos hg]
  exact ⟨hg, ht.symm.trans f5⟩
noncomputable def zasr (c : Int) (b : Bool) (p : za) (x : zb) (w : Wld) (real : ByteArray) : Tr Bool :=
  (.bind (z5 (⟨3, 1, 0, IntKind.i64.wrap (1 + ((real.size : Nat) : Int)), [], []⟩ : Packet)) fun v4 =>
  (.bind (zd (⟨9, c, 0, 0, 0, b, true⟩ : Deed) w) fun v5 =>
  (.ite (v5.1.Code == 0)
    (.leaf (v4.1.toList == real.toList))
    (.bind (zi v5.2) fun v6 =>
    (.bind (zg c v6.2) fun v7 =>
    (.guard ((0 : Int) ≤ c ∧ (c : Int) < 2)
    (.guard ((0 : Int) ≤ c ∧ (c : Int) < 2)
    (.leaf ((((((v6.1.Links.Got.get c) == (p.Links.Got.get c)) && (v7.1.Out.Got == x.Out.Got)) && (((v6.1.Queue.length : Nat) : Int) == ((p.Queue.length : Nat) : Int))) && (((v7.1.Pending.length : Nat) : Int) == ((x.Pending.length : Nat) : Int))) && (zty v6.1.Stake.Bank p.Stake.Bank))))))))))
theorem zai8 {w : Wld} (h : OkW w) {c : Int} (hi : 0 ≤ c ∧ c < 2) (b : Bool) {real : ByteArray} (hr : real = if (zcm w c b).Got < (((zcm w c b).Said.length : Nat) : Int) then (zcm w c b).Said.getD (zcm w c b).Got.toNat .empty else (⟨#[]⟩ : ByteArray)) :
    (zasr c b w.p (zc w.consumers c) w real).run = some true := by
  have ho := z3k h ⟨9, c, 0, 0, 0, b, true⟩
  have hE : z5 (⟨3, 1, 0, IntKind.i64.wrap (1 + ((real.size : Nat) : Int)), [], []⟩ : Packet) = some (zga (zae0 real.size)) := z3a (by simp) (by simp)
  unfold zasr
  rw [Tr.run_bind hE, Tr.run_bind (z8m h (by show (0 : Int) ≤ _; omega))]
  by_cases hc : (doW w ⟨9, c, 0, 0, 0, b, true⟩).2.Code = 0
  · obtain ⟨k1, k2⟩ := zafb hi hc
    rw [if_pos k1] at hr
    rw [Tr.run_true (by simpa using hc), Tr.run_leaf, hr, k2]
    simp
  · obtain ⟨-, k2, k3, k4⟩ := zaao hc
    have e0 : zc (doW w ⟨9, c, 0, 0, 0, b, true⟩).1.consumers c = zc w.consumers c := by rw [k3]
    rw [Tr.run_false (by simpa using hc), Tr.run_bind (z1j ho), Tr.run_bind (ztw ho hi), Tr.run_guard hi, Tr.run_guard hi, Tr.run_leaf, k2, e0]
    simp
theorem zass {w : Wld} (h : OkW w) {c : Int} (hi : 0 ≤ c ∧ c < 2) (b : Bool) : 0 ≤ (zcm w c b).Got := by
  cases b with
  | true => exact (zce (h.c c hi).good).2.1.2.2.1
  | false => exact (h.p.lk hi).line.2.2.1
theorem zafc {l : List Deed} (hl : z5m l) {c : Int} {b : Bool} : zki l c b = some true := by
  obtain ⟨w, h1, h2, h3⟩ := zyt hl
  have i0 : (0 : Int) ≤ 0 ∧ (0 : Int) < 2 := by omega
  rw [zki, zml, Tr.run_bind h1, Tr.run_false (by rfl)]
  by_cases hc : c < 0 ∨ 2 ≤ c
  · rw [Tr.run_true (by simpa using hc), Tr.run_bind (z1j h2), Tr.run_bind (ztw h2 i0), Tr.run_guard i0]
    have hg := zass h2 i0 b
    have key := fun real hr => zai8 h2 i0 b (real := real) hr
    cases b with
    | true =>
      rw [Tr.run_true rfl]
      by_cases hn : (zcm w 0 true).Got < (((zcm w 0 true).Said.length : Nat) : Int)
      · rw [Tr.run_true (by exact decide_eq_true hn), Tr.run_guard ⟨hg, by exact hn⟩]
        exact key _ (by rw [if_pos hn]; rfl)
      · rw [Tr.run_false (by exact decide_eq_false hn)]
        exact key _ (by rw [if_neg hn])
    | false =>
      rw [Tr.run_false rfl]
      by_cases hn : (zcm w 0 false).Got < (((zcm w 0 false).Said.length : Nat) : Int)
      · rw [Tr.run_true (by exact decide_eq_true hn), Tr.run_guard ⟨hg, by exact hn⟩]
        exact key _ (by rw [if_pos hn]; rfl)
      · rw [Tr.run_false (by exact decide_eq_false hn)]
        exact key _ (by rw [if_neg hn])
  · have hi : 0 ≤ c ∧ c < 2 := by omega
    rw [Tr.run_false (by simp; omega), Tr.run_bind (z1j h2), Tr.run_bind (ztw h2 hi), Tr.run_guard hi]
    have hg := zass h2 hi b
    have key := fun real hr => zai8 h2 hi b (real := real) hr
    cases b with
    | true =>
      rw [Tr.run_true rfl]
      by_cases hn : (zcm w c true).Got < (((zcm w c true).Said.length : Nat) : Int)
      · rw [Tr.run_true (by exact decide_eq_true hn), Tr.run_guard ⟨hg, by exact hn⟩]
        exact key _ (by rw [if_pos hn]; rfl)
      · rw [Tr.run_false (by exact decide_eq_false hn)]
        exact key _ (by rw [if_neg hn])
    | false =>
      rw [Tr.run_false rfl]
      by_cases hn : (zcm w c false).Got < (((zcm w c false).Said.length : Nat) : Int)
      · rw [Tr.run_true (by exact decide_eq_true hn), Tr.run_guard ⟨hg, by exact hn⟩]
        exact key _ (by rw [if_pos hn]; rfl)
      · rw [Tr.run_false (by exact decide_eq_false hn)]
        exact key _ (by rw [if_neg hn])
def runW : List Deed → Wld → List Reply
  | [], _ => []
  | d :: l, w => (doW w d).2 :: runW l (doW w d).1
theorem zacy : ∀ (l : List Deed) (w : Wld), (runW l w).length = l.length
  | [], _ => rfl
  | d :: l, w => by rw [runW, List.length_cons, List.length_cons, zacy l]
theorem zafd : ∀ (n : Nat) (l : List Deed) (w : Wld), runW (l.take n) w = (runW l w).take n
  | 0, l, w => by simp [runW]
  | n + 1, [], w => by simp [runW]
  | n + 1, d :: l, w => by rw [List.take_succ_cons, runW, runW, List.take_succ_cons, zafd n l]
theorem zaod {l : List Deed} (h : l.length * 48 ≤ 140737488355328) : zfq l = some l := by
  rw [zfq, zd2]
  refine Tr.run_split (fun h0 => ?_) (fun _ => ?_) (.inr trivial)
  · rw [Tr.run_leaf, List.length_eq_zero_iff.1 h0]
  · rw [Tr.run_guard (by simp only [zcn, List.length_nil]; omega), Tr.run_leaf]
theorem zj5 (l : List Reply) : Sl.len (.replies l) = l.length := rfl
theorem zast {l : List Deed} (hl : l.length ≤ 600) (hn : ∀ d, d ∈ l → d.N ≤ 9223372036854775807) : zic l = some (runW l newW, 0) := by
  have loop : zro l.length 0 newW [] l = some (runW l newW) := by
    rw [zro]
    have := znc (F := fun s : Int × Int × Wld × (List Reply) × (List Deed) => (zjz s.1 s.2.1 s.2.2.1 s.2.2.2.1 s.2.2.2.2).run) l.length (fun i (t : Wld × List Reply) => ((l.length : Int), (i : Int), t.1, t.2, l)) (fun i t => OkW t.1 ∧ t.2.length = i) (fun i t => t.2 ++ runW (l.drop i) t.1) ?_ ?_ 0 (newW, []) (Nat.zero_le _) ⟨z8f, rfl⟩
    · rw [List.drop_zero] at this
      exact this
    · rintro ⟨w, r⟩ ⟨h, hr⟩
      simp only [zjz]
      rw [Tr.run_false (by simp), Tr.run_leaf, List.drop_length, runW, List.append_nil]
    · rintro i ⟨w, r⟩ hi ⟨h, hr⟩
      simp only at h hr
      have hd := hn _ (zgu (l := l) (k := i) hi default)
      refine .inl ⟨((doW w (l.getD i default)).1, r ++ [(doW w (l.getD i default)).2]), ?_, ⟨z3k h _, by simp [hr]⟩, ?_⟩
      · simp only [zjz, Int.toNat_natCast]
        rw [Tr.run_true (by simpa using hi), Tr.run_guard ⟨by omega, by rw [zcn]; omega⟩, Tr.run_bind (z8m h hd), Tr.run_guard (by simp only [zj5, List.length_singleton]; omega), Tr.run_leaf, z6 (by omega)]
      · simp only []
        rw [zbp hi default, runW, List.append_assoc]; rfl
  rw [zic, zvq, Tr.run_false (by simp; omega), Tr.run_bind zacu, Tr.run_bind (zaod (by omega)), Tr.run_bind loop, Tr.run_leaf]
theorem zafe {α : Type} {l : List α} {n i : Nat} (h : i < n) (hn : n ≤ l.length) (d : α) : (l.take n).getD i d = l.getD i d := by
  rw [List.getD_eq_getElem?_getD, List.getD_eq_getElem?_getD, List.getElem?_take_of_lt h]
theorem zaoe {a : List Reply} {n : Nat} (hn : n ≤ a.length) (hl : a.length ≤ 600) : zna n a (a.take n) 0 = some (.inr ()) ∧ znb n a (a.take n) 0 = some (.inr ()) := by
  have hlen : (a.take n).length = n := by rw [List.length_take]; omega
  constructor
  · rw [zna]
    have := zql (F := fun s : Int × (List Reply) × (List Reply) × Int => (zkh s.1 s.2.1 s.2.2.1 s.2.2.2).run) (a.take n) default (fun i => (((a.take n).length : Int), a, a.take n, (i : Int))) (fun _ => true) false () (by
        simp only [zkh]; rw [Tr.run_false (by simp), Tr.run_leaf]) (by
        intro i hi _
        simp only [zkh, Int.toNat_natCast]
        rw [Tr.run_true (by simpa using hi), Tr.run_guard ⟨by omega, by rw [zj5]; omega⟩, Tr.run_guard ⟨by omega, by rw [zj5]; omega⟩, zafe (by omega) hn, Tr.run_false (by simp), Tr.run_leaf, z6 (by omega)]) (by intro i hi h; cases h)
    rw [if_pos (by simp), hlen] at this
    exact this
  · rw [znb]
    have := zql (F := fun s : Int × (List Reply) × (List Reply) × Int => (zg6 s.1 s.2.1 s.2.2.1 s.2.2.2).run) (a.take n) default (fun i => (((a.take n).length : Int), a, a.take n, (i : Int))) (fun _ => true) false () (by
        simp only [zg6]; rw [Tr.run_false (by simp), Tr.run_leaf]) (by
        intro i hi _
        simp only [zg6, Int.toNat_natCast]
        rw [Tr.run_true (by simpa using hi), Tr.run_guard ⟨by omega, by rw [zj5]; omega⟩, Tr.run_guard ⟨by omega, by rw [zj5]; omega⟩, zafe (by omega) hn, Tr.run_false (by simp), Tr.run_leaf, z6 (by omega)]) (by intro i hi h; cases h)
    rw [if_pos (by simp), hlen] at this
    exact this
theorem zak3 {l : List Deed} (hl : z5m l) {n : Int} : zob l n = some true := by
  rw [zob, zqj, Tr.run_bind z53]
  by_cases h0 : 120 < l.length
  · rw [Tr.run_true (by simp; omega), Tr.run_bind z53, Tr.run_leaf]
  · have hw : IntKind.i64.wrap (((l.length : Nat) : Int) + 1) = ((l.length + 1 : Nat) : Int) := z6 (by omega)
    rw [Tr.run_false (by simp; omega), hw, Tr.run_guard (by omega)]
    have hr := zast (l := l) (by omega) hl.2
    have fin : ∀ k : Int, 0 ≤ k → k ≤ l.length → k = ((k.toNat : Nat) : Int) ∧ zic ((l.drop 0).take (k.toNat - 0)) = some ((runW l newW).take k.toNat, 0) ∧ ((runW l newW).take k.toNat).length = k.toNat ∧ (((l.drop 0).take (k.toNat - 0)).length ≤ 120) := by
      intro k k0 k1
      have hr' := zast (l := l.take k.toNat) (by rw [List.length_take]; omega) (fun d hd => hl.2 d (List.mem_of_mem_take hd))
      rw [List.drop_zero, Nat.sub_zero, hr', zafd]
      exact ⟨by omega, rfl, by rw [List.length_take, zacy]; omega, by rw [List.length_take]; omega⟩
    have hb : -((l.length : Nat) : Int) ≤ Int.tmod n ((l.length + 1 : Nat) : Int) ∧ Int.tmod n ((l.length + 1 : Nat) : Int) ≤ ((l.length : Nat) : Int) := by
      have h1 : (0 : Int) < ((l.length + 1 : Nat) : Int) := by omega
      by_cases hn : 0 ≤ n
      · have a1 := Int.tmod_nonneg ((l.length + 1 : Nat) : Int) hn
        have a2 := Int.tmod_lt_of_pos n h1
        omega
      · have a1 := Int.tmod_nonneg ((l.length + 1 : Nat) : Int) (show 0 ≤ -n by omega)
        have a2 := Int.tmod_lt_of_pos (-n) h1
        rw [Int.neg_tmod] at a1 a2
        omega
    generalize Int.tmod n ((l.length + 1 : Nat) : Int) = k at hb
    have hlr : (runW l newW).length = l.length := zacy _ _
    by_cases hk : k < 0
    · have hwk : IntKind.i64.wrap (0 - k) = -k := by rw [zp (by omega) (by omega)]; omega
      obtain ⟨f1, f2, f3, f4⟩ := fin (-k) (by omega) (by omega)
      rw [Tr.run_true (by simpa using hk), hwk, Tr.run_guard (by rw [zcn]; omega), Tr.run_bind hr, Tr.run_guard ⟨by omega, by omega, by rw [zcn]; omega⟩, Tr.run_guard (by rw [zcn]; omega), Tr.run_bind f2, Tr.run_false (by
        simp only [Bool.or_eq_false_iff, bne_eq_false_iff_eq, f3, hlr]
        exact ⟨⟨⟨trivial, trivial⟩, trivial⟩, f1.symm⟩)]
      have := (zaoe (a := runW l newW) (n := (-k).toNat) (by omega) (by omega)).1
      rw [← f1] at this
      rw [Tr.run_inr this, Tr.run_leaf]
    · obtain ⟨f1, f2, f3, f4⟩ := fin k (by omega) (by omega)
      rw [Tr.run_false (by simpa using hk), Tr.run_guard (by rw [zcn]; omega), Tr.run_bind hr, Tr.run_guard ⟨by omega, by omega, by rw [zcn]; omega⟩, Tr.run_guard (by rw [zcn]; omega), Tr.run_bind f2, Tr.run_false (by
        simp only [Bool.or_eq_false_iff, bne_eq_false_iff_eq, f3, hlr]
        exact ⟨⟨⟨trivial, trivial⟩, trivial⟩, f1.symm⟩)]
      have := (zaoe (a := runW l newW) (n := k.toNat) (by omega) (by omega)).2
      rw [← f1] at this
      rw [Tr.run_inr this, Tr.run_leaf]
end Go.Proofs.YtmakmlnfbdablaaGreat.Ab
namespace Go.Proofs.YtmakmlnfbdablaaGreat.Ab
open Go Go.RowKit
set_option linter.unusedVariables false
set_option linter.unusedSimpArgs false
structure Grow (w w' : Wld) (i : Int) : Prop where
  link : (zk w.p.Links i).Out.Said <+: (zk w'.p.Links i).Out.Said
  cons : (zc w.consumers i).Out.Said <+: (zc w'.consumers i).Out.Said
theorem Grow.one {w w' : Wld} {i j : Int} {c : zb} (hj : 0 ≤ j ∧ j < 2) (hi : 0 ≤ i ∧ i < 2) (hl : (zk w.p.Links i).Out.Said <+: (zk w'.p.Links i).Out.Said) (hc : w'.consumers = zrw w.consumers j c) (h : (zc w.consumers j).Out.Said <+: c.Out.Said) : Grow w w' i := by
  refine ⟨hl, ?_⟩
  rw [hc, z39 hj hi]
  split
  · rename_i e; rw [e]; exact h
  · exact List.prefix_refl _
theorem zaof {w : Wld} (h : OkW w) (hd : w.deeds < 600) (d : Deed) {i : Int} (hi : 0 ≤ i ∧ i < 2) : Grow w (doW w d).1 i := by
  refine zai5 h hd d (P := fun w' r => Grow w w' i) ?_ ?_ ?_ ?_ ?_ ?_ ?_ ?_ ?_ ?_ ?_ ?_ ?_ ?_ ?_
  · intro w' r a _
    refine ⟨?_, ?_⟩
    · rw [a.p]; exact List.prefix_refl _
    · rw [a.c]; exact List.prefix_refl _
  · intro _ _; exact ⟨List.prefix_refl _, List.prefix_refl _⟩
  · intro _ _; exact ⟨List.prefix_refl _, List.prefix_refl _⟩
  · intro _ _; exact ⟨List.prefix_refl _, List.prefix_refl _⟩
  · intro _ _ _ _; exact ⟨List.prefix_refl _, List.prefix_refl _⟩
  · intro _ _ _; exact ⟨List.prefix_refl _, List.prefix_refl _⟩
  · intro _
    have ht : zav w.p = true ∧ w.p.Time ≤ w.clock ∧ w.clock ≤ 1099511627776 := ⟨h.pr, h.pt, by have := h.t1; omega⟩
    obtain ⟨D', -, hD⟩ := zai0 ht hi
    refine ⟨?_, List.prefix_refl _⟩
    show (zk w.p.Links i).Out.Said <+: (zk (zo3 w.p w.clock).1.Links i).Out.Said
    rw [← zrv, ← zrv]
    rcases hD with ⟨-, -, -, e4, -⟩ | ⟨-, -, -, -, -, -, -, -, e9⟩
    · rw [e4]; exact List.prefix_refl _
    · rw [e9]; exact List.prefix_append _ _
  · intro _ hj hg ho _ _
    by_cases e : i = d.C
    · obtain ⟨c1, c2⟩ := (h.c d.C hj).fresh ho hg
      rw [e]
      exact ⟨by rw [c2]; exact List.nil_prefix, by rw [c1]; exact List.nil_prefix⟩
    · refine ⟨?_, ?_⟩
      · show _ <+: (zk (zif w.p.Links d.C w.p.Height w.p.Set (z0p w.p)) i).Out.Said
        rw [zth hj hi, if_neg e]; exact List.prefix_refl _
      · show _ <+: (zc (zrw w.consumers d.C _) i).Out.Said
        rw [zla hj hi e]; exact List.prefix_refl _
  · intro _ hj ho
    have hw := h.c d.C hj
    obtain ⟨e0, m, k, hm, hpm, hl, hk, hf, -⟩ := z4a (now := w.clock) hw.good ho ⟨hw.time, by have := h.t1; omega⟩ (by have := hw.height; omega)
    refine .one (c := (endC w.clock (zc w.consumers d.C)).1) hj hi (List.prefix_refl _) rfl ?_
    rw [hf]; exact List.prefix_append _ _
  · intro _ hj _ _
    refine ⟨?_, List.prefix_refl _⟩
    show _ <+: (zk (z1h w.p.Links d.C _) i).Out.Said
    rw [zag4 hj hi]; split <;> exact List.prefix_refl _
  · intro _ hj _ _
    exact .one hj hi (List.prefix_refl _) rfl (List.prefix_refl _)
  · intro q _ hj _ _ _ _
    exact .one hj hi (List.prefix_refl _) rfl (List.prefix_refl _)
  · intro q _ hj _ _ _ _
    refine .one hj hi ?_ rfl (List.prefix_refl _)
    show _ <+: (zk (z0q w.p.Links d.C _) i).Out.Said
    rw [zux hj hi]
    split
    · rename_i e; rw [e]; exact List.prefix_refl _
    · exact List.prefix_refl _
  · intro _ hj _ _
    refine .one hj hi ?_ rfl (List.prefix_refl _)
    show _ <+: (zk (zwd w.p.Links d.C) i).Out.Said
    rw [ztv hj hi]; split <;> exact List.prefix_refl _
  · intro q f _ hj _ _ _ _ _
    exact .one hj hi (List.prefix_refl _) rfl (List.prefix_append _ _)
theorem zawf {w : Wld} (h : OkW w) (hd : w.deeds < 600) (d : Deed) : d.Kind = 9 → (doW w d).2.Code = 0 → (0 ≤ d.C ∧ d.C < 2) ∧ (d.Back = true → (doW w d).2.N = (zc (doW w d).1.consumers d.C).Out.Got) ∧ (d.Back = false → (doW w d).2.N = (doW w d).1.p.Links.Got.get d.C) := by
  refine zai5 h hd d (P := fun w' r => d.Kind = 9 → r.Code = 0 → (0 ≤ d.C ∧ d.C < 2) ∧ (d.Back = true → r.N = (zc w'.consumers d.C).Out.Got) ∧ (d.Back = false → r.N = w'.p.Links.Got.get d.C)) ?_ ?_ ?_ ?_ ?_ ?_ ?_ ?_ ?_ ?_ ?_ ?_ ?_ ?_ ?_
  · intro w' r _ hr _ k; exact absurd k hr
  · intro k _ k9; omega
  · intro k _ k9; omega
  · intro k _ k9; omega
  · intro k _ _ _ k9; omega
  · intro k _ _ k9; omega
  · intro k k9; omega
  · intro k _ _ _ _ _ k9; omega
  · intro k _ _ k9; omega
  · intro k _ _ _ k9; omega
  · intro k _ _ _ k9; omega
  · intro q _ hj _ hb _ _ _ _
    refine ⟨hj, fun _ => ?_, fun k => by rw [hb] at k; cases k⟩
    show _ = (zc (zrw w.consumers d.C _) d.C).Out.Got
    rw [znh hj]
  · intro q _ hj _ hb _ _ _ _
    refine ⟨hj, (fun k => by rw [hb] at k; cases k), fun _ => ?_⟩
    show _ = (zk (z0q w.p.Links d.C _) d.C).Out.Got
    rw [zux hj hj, if_pos rfl]
  · intro k _ _ _ k9; omega
  · intro q f k _ _ _ _ _ _ k9; omega
def zacz (w : Wld) : A2 (List ByteArray) := ⟨(zk w.p.Links 0).Out.Said, (zk w.p.Links 1).Out.Said⟩
def zac0 (w : Wld) : A2 (List ByteArray) := ⟨(zc w.consumers 0).Out.Said, (zc w.consumers 1).Out.Said⟩
theorem zaff {w : Wld} {i : Int} (hi : 0 ≤ i ∧ i < 2) : (zacz w).get i = (zk w.p.Links i).Out.Said ∧ (zac0 w).get i = (zc w.consumers i).Out.Said := by
  rcases (show i = 0 ∨ i = 1 by omega) with rfl | rfl <;> exact ⟨rfl, rfl⟩
theorem z8n {l m : List ByteArray} (h : l <+: m) {k : Nat} (hk : k < l.length) : k < m.length ∧ m.getD k .empty = l.getD k .empty := by
  obtain ⟨t, rfl⟩ := h
  refine ⟨by rw [List.length_append]; omega, ?_⟩
  rw [List.getD_eq_getElem?_getD, List.getD_eq_getElem?_getD, List.getElem?_append_left hk]
theorem zarh {c : Nat} (hc : c < 2) {w : Wld} {S B : A2 (List ByteArray)} {d : Deed} {r : Reply} {p : za} {x : zb} {o : zbk} (hl : (S.get c).length ≤ 1000) (h : S.get c <+: o.Said) :
    zje c ((S.get c).length : Nat) 0 w S B d r p x o = some (.inr (c, w, S, B, d, r, p, x, o)) := by
  rw [zje]
  have := zql (F := fun s : Int × Int × Int × Wld × (A2 (List ByteArray)) × (A2 (List ByteArray)) × Deed × Reply × za × zb × zbk => (zeg s.1 s.2.1 s.2.2.1 s.2.2.2.1 s.2.2.2.2.1 s.2.2.2.2.2.1 s.2.2.2.2.2.2.1 s.2.2.2.2.2.2.2.1 s.2.2.2.2.2.2.2.2.1 s.2.2.2.2.2.2.2.2.2.1 s.2.2.2.2.2.2.2.2.2.2).run) (S.get c) .empty (fun i => ((c : Int), (((S.get c).length : Nat) : Int), (i : Int), w, S, B, d, r, p, x, o)) (fun _ => true) (false, w, S, B) ((c : Int), w, S, B, d, r, p, x, o) (by
      simp only [zeg]; rw [Tr.run_false (by simp), Tr.run_leaf]) (by
      intro i hi _
      obtain ⟨k1, k2⟩ := z8n h hi
      simp only [zeg, Int.toNat_natCast]
      rw [Tr.run_true (by simpa using hi), Tr.run_guard (fun _ => ⟨⟨by omega, by show (i : Int) < ((o.Said.length : Nat) : Int); omega⟩, trivial⟩), Tr.run_guard (fun _ => ⟨⟨by omega, by omega⟩, trivial⟩), Tr.run_guard (fun _ => ⟨⟨by omega, by show (i : Int) < (((S.get c).length : Nat) : Int); omega⟩, trivial⟩), Tr.run_false (by
        rw [k2]; simp; omega), Tr.run_leaf, z6 (by omega)]) (by intro i hi h; cases h)
  rw [if_pos (by simp)] at this
  exact this
theorem zari {c : Nat} (hc : c < 2) {w : Wld} {S B : A2 (List ByteArray)} {d : Deed} {r : Reply} {p : za} {x : zb} {o : zbk} (hl : (B.get c).length ≤ 1000) (h : B.get c <+: x.Out.Said) :
    zjf c ((B.get c).length : Nat) 0 w S B d r p x o = some (.inr (c, w, S, B, d, r, p, x, o)) := by
  rw [zjf]
  have := zql (F := fun s : Int × Int × Int × Wld × (A2 (List ByteArray)) × (A2 (List ByteArray)) × Deed × Reply × za × zb × zbk => (zeh s.1 s.2.1 s.2.2.1 s.2.2.2.1 s.2.2.2.2.1 s.2.2.2.2.2.1 s.2.2.2.2.2.2.1 s.2.2.2.2.2.2.2.1 s.2.2.2.2.2.2.2.2.1 s.2.2.2.2.2.2.2.2.2.1 s.2.2.2.2.2.2.2.2.2.2).run) (B.get c) .empty (fun i => ((c : Int), (((B.get c).length : Nat) : Int), (i : Int), w, S, B, d, r, p, x, o)) (fun _ => true) (false, w, S, B) ((c : Int), w, S, B, d, r, p, x, o) (by
      simp only [zeh]; rw [Tr.run_false (by simp), Tr.run_leaf]) (by
      intro i hi _
      obtain ⟨k1, k2⟩ := z8n h hi
      simp only [zeh, Int.toNat_natCast]
      rw [Tr.run_true (by simpa using hi), Tr.run_guard (fun _ => ⟨⟨by omega, by show (i : Int) < ((x.Out.Said.length : Nat) : Int); omega⟩, trivial⟩), Tr.run_guard (fun _ => ⟨⟨by omega, by omega⟩, trivial⟩), Tr.run_guard (fun _ => ⟨⟨by omega, by show (i : Int) < (((B.get c).length : Nat) : Int); omega⟩, trivial⟩), Tr.run_false (by
        rw [k2]; simp; omega), Tr.run_leaf, z6 (by omega)]) (by intro i hi h; cases h)
  rw [if_pos (by simp)] at this
  exact this
theorem zaog {w : Wld} (h : OkW w) {i : Int} (hi : 0 ≤ i ∧ i < 2) : zen (zk w.p.Links i).Out ∧ zen (zc w.consumers i).Out := ⟨(h.p.lk hi).line, (zce (h.c i hi).good).2.1⟩
theorem zarj {w : Wld} (h : OkW w) {d : Deed} {r : Reply} {S B : A2 (List ByteArray)} (hS : ∀ i : Int, 0 ≤ i ∧ i < 2 → S.get i <+: (zk w.p.Links i).Out.Said) (hB : ∀ i : Int, 0 ≤ i ∧ i < 2 → B.get i <+: (zc w.consumers i).Out.Said)
    (hr : d.Kind = 9 → r.Code = 0 → (0 ≤ d.C ∧ d.C < 2) ∧ (d.Back = true → r.N = (zc w.consumers d.C).Out.Got) ∧ (d.Back = false → r.N = w.p.Links.Got.get d.C)) :
    zba d r w S B = some (true, w, zacz w, zac0 w) := by
  have ro1 : z8o 109 w (zi w) = some (w.p, w) := zaar (z1j h)
  have ro2 : ∀ {i : Int}, 0 ≤ i ∧ i < 2 → z8o 109 w (zg i w) = some (zc w.consumers i, w) := fun hi => zaar (ztw h hi)
  have turn : ∀ (c : Nat), c < 2 → ∀ S B : A2 (List ByteArray), S.get c <+: (zk w.p.Links c).Out.Said → B.get c <+: (zc w.consumers c).Out.Said →
      (zcz (c : Int) w S B d r w.p).run = some (.inl (((c + 1 : Nat) : Int), w, S.set c (zk w.p.Links c).Out.Said, B.set c (zc w.consumers c).Out.Said, d, r, w.p)) := by
    intro c hc S B h1 h2
    have hi : 0 ≤ (c : Int) ∧ (c : Int) < 2 := by omega
    obtain ⟨g1, g2⟩ := zaog h hi
    have a1 : w.p.Links.Got.get c ≤ (((w.p.Links.Said.get c).length : Nat) : Int) := g1.2.2.2.1
    have a2 : (zk w.p.Links c).Out.Said.length ≤ 400 := g1.2.1
    have b1 := g2.2.2.2.1
    have b2 : (zc w.consumers c).Out.Said.length ≤ 400 := g2.2.1
    have z1 := h1.length_le
    have z2 := h2.length_le
    simp only [zcz]
    rw [Tr.run_true (by simp; omega), Tr.run_bind (ro2 hi), Tr.run_guard hi, Tr.run_false (by simp only [Bool.or_eq_false_iff, decide_eq_false_iff_not]; omega), Tr.run_guard hi, Tr.run_inr (zarh hc (by omega) h1), Tr.run_guard hi, Tr.run_inr (zari hc (by omega) h2), Tr.run_guard hi, Tr.run_guard hi, Tr.run_leaf, z6 (by omega)]
  have loop : zjg 0 w S B d r w.p = some (.inr (w, zacz w, zac0 w, d, r, w.p)) := by
    rw [zjg, zcv (turn 0 (by omega) S B (hS 0 (by omega)) (hB 0 (by omega))), zcv (turn 1 (by omega) _ _ (by
      rw [zam _ _ (by omega) (by omega), if_neg (by omega)]; exact hS 1 (by omega)) (by
      rw [zam _ _ (by omega) (by omega), if_neg (by omega)]; exact hB 1 (by omega))), ze8 (r := .inr (w, zacz w, zac0 w, d, r, w.p)) (by
      show (zcz 2 w _ _ d r w.p).run = _
      simp only [zcz]
      rw [Tr.run_false (by simp), Tr.run_leaf]
      rfl)]
  rw [zba, zkg, Tr.run_bind ro1, Tr.run_inr loop]
  simp only []
  have rng : ((decide (d.C ≥ 0)) && (decide (d.C < 2))) = true → 0 ≤ d.C ∧ d.C < 2 := by simp
  rw [Tr.run_guard (fun _ k _ => ⟨by rw [ro2 (rng k)]; rfl, trivial⟩), Tr.run_guard (fun _ _ k _ => ⟨rng k, trivial⟩), Tr.run_leaf]
  congr 2
  by_cases k9 : d.Kind = 9
  · by_cases k0 : r.Code = 0
    · obtain ⟨f1, f2, f3⟩ := hr k9 k0
      rw [ro2 f1]
      simp only [Option.getD_some]
      cases hb : d.Back with
      | true => rw [← f2 hb]; simp; exact .inr f1
      | false => rw [← f3 hb]; simp; exact .inr f1
    · simp [k0]
  · simp [k9]
theorem zahd {l : List Deed} (hl : z5m l) : zmk l = some true := by
  have loop : ∃ t : Wld, zmj l 0 ⟨[], []⟩ ⟨[], []⟩ newW = some (.inr (zacz t, zac0 t, t)) ∧ True := by
    rw [zmj]
    have := zae8 (F := fun s : (List Deed) × Int × (A2 (List ByteArray)) × (A2 (List ByteArray)) × Wld => (zf8 s.1 s.2.1 s.2.2.1 s.2.2.2.1 s.2.2.2.2).run) (zw8 l) (fun i (w : Wld) => (l, (i : Int), zacz w, zac0 w, w)) (fun i w => OkW w ∧ w.deeds = i) (fun w => .inr (zacz w, zac0 w, w)) ?_ ?_ (t := newW) ⟨z8f, rfl⟩
    · obtain ⟨t, h1, _⟩ := this
      exact ⟨t, h1, trivial⟩
    · rintro w ⟨h, _⟩
      simp only [zf8]
      rw [Tr.run_false zae9, Tr.run_leaf]
    · rintro i w hi ⟨h, hd⟩
      have hlt := zai6 hi
      have hn := hl.2 _ (zgu (l := l) (k := i) hlt default)
      have ho := z3k h (l.getD i default)
      have h600 : w.deeds < 600 := by unfold zw8 at hi; omega
      have hk := zarj (d := l.getD i default) (r := (doW w (l.getD i default)).2) (S := zacz w) (B := zac0 w) ho (fun j hj => by rw [(zaff hj).1]; exact (zaof h h600 _ hj).link) (fun j hj => by rw [(zaff hj).2]; exact (zaof h h600 _ hj).cons) (zawf h h600 _)
      refine ⟨(doW w (l.getD i default)).1, ?_, ho, by rw [zai7 _ (by omega), hd]; omega⟩
      simp only [zf8]
      rw [Int.toNat_natCast, Tr.run_true (zafa hi), Tr.run_guard ⟨by omega, by rw [zcn]; omega⟩, Tr.run_bind (z8m h hn), Tr.run_guard ⟨by omega, by rw [zcn]; omega⟩, hk, Tr.run_guard (by rfl), Tr.run_false (by rfl), Tr.run_leaf, z6 (by have := hl.1; omega)]
      rfl
  obtain ⟨t, h1, -⟩ := loop
  rw [zmk, zoa, Tr.run_bind (v := (true, zacz t, zac0 t, t)) (by
    rw [zyi, zn9, Tr.run_bind z53, Tr.run_false (by rfl), Tr.run_bind zacu, Tr.run_inr h1, Tr.run_leaf]), Tr.run_leaf]
end Go.Proofs.YtmakmlnfbdablaaGreat.Ab
