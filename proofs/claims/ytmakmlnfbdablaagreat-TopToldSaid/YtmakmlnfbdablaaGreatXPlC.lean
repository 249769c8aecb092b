/-
  The plain lemmas.
-/
import Derived.Test.YtmakmlnfbdablaaGreatXFCodec
import Derived.Test.YtmakmlnfbdablaaGreatXFLine
import Derived.Test.YtmakmlnfbdablaaGreatXFTop
import Derived.Test.YtmakmlnfbdablaaGreatXFWld
import Derived.Test.YtmakmlnfbdablaaGreatXPlB
namespace Go.Proofs.YtmakmlnfbdablaaGreat.Ab
open Go Go.RowKit
set_option linter.unusedVariables false
set_option linter.unusedSimpArgs false
def pkT (q : Packet) : ByteArray := txt (zqr q)
theorem zauo {p q : Packet} (hp : zeb p = 0) (hq : zeb q = 0) (h : pkT p = pkT q) : p = q := by
  have h1 : zqr p = zqr q := by have := congrArg (fun b : ByteArray => b.data.toList) h; exact this
  have h2 := z58 hp
  rw [h1, z58 hq] at h2
  exact (congrArg Prod.fst h2).symm
def z36 (s : List Power) (l : List Packet) : List Power := l.foldl (fun s q => zok s q.Set) s
theorem z63 (s : List Power) (l m : List Packet) : z36 s (l ++ m) = z36 (z36 s l) m := List.foldl_append
def zado (id : Int) (l : List Packet) : Int := l.foldl (fun _ q => q.Id) id
def zabe : Int → List Packet → Prop
  | _, [] => True
  | id, q :: l => id < q.Id ∧ zabe q.Id l
theorem rises_app : ∀ {l m : List Packet} {id : Int}, zabe id (l ++ m) ↔ zabe id l ∧ zabe (zado id l) m
  | [], m, id => by simp [zabe, zado]
  | q :: l, m, id => by
    simp only [List.cons_append, zabe]
    rw [rises_app (l := l)]
    exact ⟨fun ⟨a, b, c⟩ => ⟨⟨a, b⟩, c⟩, fun ⟨⟨a, b⟩, c⟩ => ⟨a, b, c⟩⟩
theorem zabf {n : Int} : ∀ {l : List Packet} {id : Int}, id ≤ n → (∀ q, q ∈ l → q.Id ≤ n) → zado id l ≤ n
  | [], _, h, _ => h
  | q :: l, _, _, h => zabf (l := l) (h q (List.mem_cons_self ..)) (fun r hr => h r (List.mem_cons_of_mem _ hr))
theorem zadp {now : Int} : ∀ (l : List Packet) (c : zb), (l.foldl (zqm now) c).Set = z36 c.Set l ∧ (l.foldl (zqm now) c).Id = zado c.Id l
  | [], _ => ⟨rfl, rfl⟩
  | q :: l, c => by
    obtain ⟨h1, h2⟩ := zadp l (zqm now c q)
    rw [zxx] at h1 h2
    rw [List.foldl_cons, zxx]
    exact ⟨h1, h2⟩
structure WayI (w : Wld) (i : Int) (ms : List Packet) : Prop where
  way : (zh w.p.Links i).Out.Said.drop (zh w.p.Links i).Out.Got.toNat = ms.map pkT
  good : ∀ q, q ∈ ms → zeb q = 0 ∧ q.Kind = 1
  rise : zabe (zc w.consumers i).Id ((zc w.consumers i).Pending ++ ms)
  id : (zc w.consumers i).Id ≤ w.p.Height
  ids : ∀ q, q ∈ (zc w.consumers i).Pending ++ ms → q.Id ≤ w.p.Height
  told : z36 (zc w.consumers i).Set ((zc w.consumers i).Pending ++ ms) = (zh w.p.Links i).Told
theorem WayI.same {w w' : Wld} {i : Int} {ms : List Packet} (h : WayI w i ms) (e1 : (zh w'.p.Links i).Out.Said = (zh w.p.Links i).Out.Said) (e2 : (zh w'.p.Links i).Out.Got = (zh w.p.Links i).Out.Got) (e3 : (zh w'.p.Links i).Told = (zh w.p.Links i).Told)
    (e4 : (zc w'.consumers i).Id = (zc w.consumers i).Id) (e5 : (zc w'.consumers i).Pending = (zc w.consumers i).Pending) (e6 : (zc w'.consumers i).Set = (zc w.consumers i).Set) (e7 : w.p.Height ≤ w'.p.Height) : WayI w' i ms := by
  obtain ⟨a1, a2, a3, a4, a5, a6⟩ := h
  exact ⟨by rw [e1, e2]; exact a1, a2, by rw [e4, e5]; exact a3, by rw [e4]; omega, fun q hq => by rw [e5] at hq; have := a5 q hq; omega, by rw [e5, e6, e3]; exact a6⟩
theorem WayI.cons {w w' : Wld} {i j : Int} {ms : List Packet} {c : zb} (hj : 0 ≤ j ∧ j < 2) (hi : 0 ≤ i ∧ i < 2) (h : WayI w i ms) (hl : (zh w'.p.Links i).Out.Said = (zh w.p.Links i).Out.Said ∧ (zh w'.p.Links i).Out.Got = (zh w.p.Links i).Out.Got ∧ (zh w'.p.Links i).Told = (zh w.p.Links i).Told)
    (hc : w'.consumers = znz w.consumers j c) (h1 : c.Id = (zc w.consumers j).Id) (h2 : c.Pending = (zc w.consumers j).Pending) (h3 : c.Set = (zc w.consumers j).Set) (hH : w.p.Height ≤ w'.p.Height) : WayI w' i ms := by
  have e := zmf (C := w.consumers) hj hi c
  refine h.same hl.1 hl.2.1 hl.2.2 ?_ ?_ ?_ hH
  all_goals
    rw [hc, e]
    split
    · rename_i k; rw [k]; assumption
    · rfl
def zam1 (w : Wld) : Prop := ∀ i : Int, 0 ≤ i ∧ i < 2 → (zc w.consumers i).On = true → ∃ ms, WayI w i ms
theorem zam2 {α : Type} {l : List α} {x : α} {k : Nat} (h : k ≤ l.length) : (l ++ [x]).drop k = l.drop k ++ [x] := List.drop_append_of_le_length h
theorem zaup {w : Wld} (h : OkW w) (hd : w.deeds < 600) (ht : zam1 w) (d : Deed) : zam1 (doW w d).1 := by
  intro i hi
  refine z4o h hd d (P := fun w' r => (zc w'.consumers i).On = true → ∃ ms, WayI w' i ms) ?_ ?_ ?_ ?_ ?_ ?_ ?_ ?_ ?_ ?_ ?_ ?_ ?_ ?_ ?_
  · intro w' r a _ ho
    rw [a.c] at ho
    obtain ⟨ms, hm⟩ := ht i hi ho
    exact ⟨ms, hm.same (by rw [a.p]) (by rw [a.p]) (by rw [a.p]) (by rw [a.c]) (by rw [a.c]) (by rw [a.c]) (by rw [a.p]; exact Int.le_refl _)⟩
  · intro _ _ ho; obtain ⟨ms, hm⟩ := ht i hi ho; exact ⟨ms, hm.same rfl rfl rfl rfl rfl rfl (Int.le_refl _)⟩
  · intro _ _ ho; obtain ⟨ms, hm⟩ := ht i hi ho; exact ⟨ms, hm.same rfl rfl rfl rfl rfl rfl (Int.le_refl _)⟩
  · intro _ _ ho; obtain ⟨ms, hm⟩ := ht i hi ho; exact ⟨ms, hm.same rfl rfl rfl rfl rfl rfl (Int.le_refl _)⟩
  · intro _ _ _ _ ho; obtain ⟨ms, hm⟩ := ht i hi ho; exact ⟨ms, hm.same rfl rfl rfl rfl rfl rfl (Int.le_refl _)⟩
  · intro _ _ _ ho; obtain ⟨ms, hm⟩ := ht i hi ho; exact ⟨ms, hm.same rfl rfl rfl rfl rfl rfl (Int.le_refl _)⟩
  · intro _ ho
    obtain ⟨ms, hm⟩ := ht i hi ho
    have hg : zad w.p = true ∧ w.p.Time ≤ w.clock ∧ w.clock ≤ 1099511627776 := ⟨h.pr, h.pt, by have := h.t1; omega⟩
    obtain ⟨D', -, hD⟩ := z4n hg hi
    obtain ⟨r1, r2, r3, r4, -⟩ := z1z hg
    have hH : (zzg w).p.Height = w.p.Height + 1 := r1
    have hset : zef (fP (zjh w.p w.clock).1.Set) = (zjh w.p w.clock).1.Set := by rw [r4]; exact z3o _
    rcases hD with ⟨e1, e2, e3, e4, -⟩ | ⟨e1, e2, e3, e4, e5, e6, e7, e8, e9⟩
    · have el : (zh (zzg w).p.Links i).Out = (zh w.p.Links i).Out := e4
      exact ⟨ms, hm.same (by rw [el]) (by rw [el]) e1 rfl rfl rfl (by omega)⟩
    · have el : (zh (zzg w).p.Links i).Out = _ := e9
      have gl := (h.p.lk hi).line
      have hgot : (zh w.p.Links i).Out.Got.toNat ≤ (zh w.p.Links i).Out.Said.length := by
        have a1 : 0 ≤ (zh w.p.Links i).Out.Got := gl.2.2.1
        have a2 : (zh w.p.Links i).Out.Got ≤ (((zh w.p.Links i).Out.Said.length : Nat) : Int) := gl.2.2.2.1
        omega
      obtain ⟨a1, a2, a3, a4, a5, a6⟩ := hm
      obtain ⟨k, hk⟩ : ∃ k : Packet, k = ⟨1, (zjh w.p w.clock).1.Height, 0, 0, zru (fP (w.p.Links.Told.get i)) (fP (zjh w.p w.clock).1.Set), D'⟩ := ⟨_, rfl⟩
      rw [← hk] at e8 el
      have kid : k.Id = w.p.Height + 1 := by rw [hk]; exact r1
      refine ⟨ms ++ [k], ⟨?_, ?_, ?_, ?_, ?_, ?_⟩⟩
      · rw [el]
        show ((zh w.p.Links i).Out.Said ++ [txt (zqr k)]).drop (zh w.p.Links i).Out.Got.toNat = _
        rw [zam2 hgot, a1, List.map_append]; rfl
      · intro q hq
        rcases List.mem_append.1 hq with hq | hq
        · exact a2 q hq
        · rw [List.mem_singleton.1 hq]; exact ⟨e8, by rw [hk]⟩
      · show zabe (zc w.consumers i).Id ((zc w.consumers i).Pending ++ (ms ++ [k]))
        rw [← List.append_assoc, rises_app]
        refine ⟨a3, ?_, trivial⟩
        have := zabf (n := w.p.Height) a4 a5
        omega
      · show (zc w.consumers i).Id ≤ (zzg w).p.Height; omega
      · intro q hq
        have hq' : q ∈ (zc w.consumers i).Pending ++ (ms ++ [k]) := hq
        rw [← List.append_assoc] at hq'
        rcases List.mem_append.1 hq' with hq' | hq'
        · have := a5 q hq'; omega
        · rw [List.mem_singleton.1 hq']; omega
      · show z36 (zc w.consumers i).Set ((zc w.consumers i).Pending ++ (ms ++ [k])) = (zh (zjh w.p w.clock).1.Links i).Told
        rw [← List.append_assoc, z63, a6]
        show zok (zh w.p.Links i).Told k.Set = (zjh w.p w.clock).1.Links.Told.get i
        rw [e1, hk]
        exact zahg hset
  · intro _ hj hg hno _ _ ho
    by_cases e : i = d.C
    · rw [e]
      have hci : zc (zafp w d.C).consumers d.C = zrw w.p.Set w.p.Height w.clock := zfe hj _
      have el : zh (zafp w d.C).p.Links d.C = _ := zkg (L := w.p.Links) (H := w.p.Height) (T := w.p.Set) (f := zxz w.p) hj hj
      rw [if_pos rfl] at el
      refine ⟨[], ⟨by rw [el]; rfl, by simp, by rw [hci]; trivial, by rw [hci]; exact Int.le_refl _, ?_, by rw [hci, el]; rfl⟩⟩
      rw [hci]; intro q hq; cases hq
    · have hci : zc (zafp w d.C).consumers i = zc w.consumers i := zat hj hi e _
      have el : zh (zafp w d.C).p.Links i = _ := zkg (L := w.p.Links) (H := w.p.Height) (T := w.p.Set) (f := zxz w.p) hj hi
      rw [if_neg e] at el
      rw [hci] at ho
      obtain ⟨ms, hm⟩ := ht i hi ho
      exact ⟨ms, hm.same (by rw [el]) (by rw [el]) (by rw [el]) (by rw [hci]) (by rw [hci]) (by rw [hci]) (Int.le_refl _)⟩
  · intro _ hj hon ho
    have hw := h.c d.C hj
    obtain ⟨e0, m, k, hm0, hpm, hl, hk, hf, f1, -⟩ := z2q (now := w.clock) hw.good hon ⟨hw.time, by have := h.t1; omega⟩ (by have := hw.height; omega)
    by_cases e : i = d.C
    · rw [e]
      obtain ⟨ms, a1, a2, a3, a4, a5, a6⟩ := ht d.C hj hon
      have hci : zc (zafq w d.C).consumers d.C = (z8t w.clock (zc w.consumers d.C)).1 := zfe hj _
      obtain ⟨s1, s2⟩ := zadp (now := w.clock) (zc w.consumers d.C).Pending { zc w.consumers d.C with Height := (zc w.consumers d.C).Height + 1, Time := w.clock }
      rw [← hm0] at s1 s2
      have q1 : (zc (zafq w d.C).consumers d.C).Id = zado (zc w.consumers d.C).Id (zc w.consumers d.C).Pending := by rw [hci, hf]; exact s2
      have q2 : (zc (zafq w d.C).consumers d.C).Set = z36 (zc w.consumers d.C).Set (zc w.consumers d.C).Pending := by rw [hci, hf]; exact s1
      have q3 : (zc (zafq w d.C).consumers d.C).Pending = [] := by rw [hci, hf]
      refine ⟨ms, ⟨a1, a2, ?_, ?_, ?_, ?_⟩⟩
      · rw [q1, q3]; exact (rises_app.1 a3).2
      · rw [q1]; exact zabf a4 (fun q hq => a5 q (List.mem_append_left _ hq))
      · rw [q3]; exact fun q hq => a5 q (List.mem_append_right _ hq)
      · rw [q2, q3, List.nil_append, ← z63]; exact a6
    · have hci : zc (zafq w d.C).consumers i = zc w.consumers i := zat hj hi e _
      rw [hci] at ho
      obtain ⟨ms, hm⟩ := ht i hi ho
      exact ⟨ms, hm.same rfl rfl rfl (by rw [hci]) (by rw [hci]) (by rw [hci]) (Int.le_refl _)⟩
  · intro _ hj _ _ ho
    obtain ⟨ms, hm⟩ := ht i hi ho
    have el : zh (zauj w d.C).p.Links i = _ := z6u (L := w.p.Links) hj hi (zapq w.heads d.C)
    exact ⟨ms, hm.same (by rw [el]; split <;> rfl) (by rw [el]; split <;> rfl) (by rw [el]; split <;> rfl) rfl rfl rfl (Int.le_refl _)⟩
  · intro _ hj hon _ ho
    have hoi : (zc w.consumers i).On = true := by
      have e := zmf (C := w.consumers) hj hi { zc w.consumers d.C with Seen := zaiy w.heads d.C }
      have ho' : (zc (znz w.consumers d.C { zc w.consumers d.C with Seen := zaiy w.heads d.C }) i).On = true := ho
      rw [e] at ho'
      split at ho'
      · rename_i k; rw [k]; exact hon
      · exact ho'
    obtain ⟨ms, hm⟩ := ht i hi hoi
    exact ⟨ms, .cons hj hi hm ⟨rfl, rfl, rfl⟩ rfl rfl rfl rfl (Int.le_refl _)⟩
  · intro q _ hj hon _ _ _ ho
    have hoi : (zc w.consumers i).On = true := by
      have e := zmf (C := w.consumers) hj hi { zc w.consumers d.C with Out := { (zc w.consumers d.C).Out with Got := (zc w.consumers d.C).Out.Got + 1 } }
      have ho' : (zc (znz w.consumers d.C { zc w.consumers d.C with Out := { (zc w.consumers d.C).Out with Got := (zc w.consumers d.C).Out.Got + 1 } }) i).On = true := ho
      rw [e] at ho'
      split at ho'
      · rename_i k; rw [k]; exact hon
      · exact ho'
    obtain ⟨ms, hm⟩ := ht i hi hoi
    exact ⟨ms, .cons hj hi hm ⟨rfl, rfl, rfl⟩ rfl rfl rfl rfl (Int.le_refl _)⟩
  · intro q _ hj hon _ hcm hq1 ho
    have el : zh (gotF w d.C q).p.Links i = _ := ztj (L := w.p.Links) hj hi { (zh w.p.Links d.C).Out with Got := (zh w.p.Links d.C).Out.Got + 1 }
    by_cases e : i = d.C
    · rw [e] at el ⊢
      rw [if_pos rfl] at el
      obtain ⟨ms, a1, a2, a3, a4, a5, a6⟩ := ht d.C hj hon
      have hci : zc (gotF w d.C q).consumers d.C = { zc w.consumers d.C with Pending := (zc w.consumers d.C).Pending ++ [q] } := zfe hj _
      have hgot : (zh w.p.Links d.C).Out.Got.toNat < (zh w.p.Links d.C).Out.Said.length := hcm.got
      have hg0 : 0 ≤ (zh w.p.Links d.C).Out.Got := hcm.good.2.2.1
      have htx : (zh w.p.Links d.C).Out.Said.getD (zh w.p.Links d.C).Out.Got.toNat .empty = txt (zqr q) := hcm.text
      rw [zay hgot .empty, htx] at a1
      cases ms with
      | nil => cases a1
      | cons m ms =>
        rw [List.map_cons] at a1
        obtain ⟨b1, b2⟩ := List.cons.inj a1
        have hm : m = q := (zauo hcm.pk (a2 m (List.mem_cons_self ..)).1 b1).symm
        subst hm
        have hlist : (zc w.consumers d.C).Pending ++ m :: ms = (zc w.consumers d.C).Pending ++ [m] ++ ms := by simp
        rw [hlist] at a3 a5 a6
        refine ⟨ms, ⟨?_, fun r hr => a2 r (List.mem_cons_of_mem _ hr), by rw [hci]; exact a3, by rw [hci]; exact a4, by rw [hci]; exact a5, by rw [hci, el]; exact a6⟩⟩
        rw [el]
        show (zh w.p.Links d.C).Out.Said.drop ((zh w.p.Links d.C).Out.Got + 1).toNat = _
        rw [show ((zh w.p.Links d.C).Out.Got + 1).toNat = (zh w.p.Links d.C).Out.Got.toNat + 1 by omega]
        exact b2
    · rw [if_neg e] at el
      have hci : zc (gotF w d.C q).consumers i = zc w.consumers i := zat hj hi e _
      rw [hci] at ho
      obtain ⟨ms, hm⟩ := ht i hi ho
      exact ⟨ms, hm.same (by rw [el]) (by rw [el]) (by rw [el]) (by rw [hci]) (by rw [hci]) (by rw [hci]) (Int.le_refl _)⟩
  · intro _ hj hon _ ho
    by_cases e : i = d.C
    · have hci : zc (zafr w d.C).consumers d.C = _ := zfe hj _
      rw [e, hci] at ho; cases ho
    · have hci : zc (zafr w d.C).consumers i = zc w.consumers i := zat hj hi e _
      have el : zh (zafr w d.C).p.Links i = _ := zm9 (L := w.p.Links) hj hi
      rw [if_neg e] at el
      rw [hci] at ho
      obtain ⟨ms, hm⟩ := ht i hi ho
      exact ⟨ms, hm.same (by rw [el]) (by rw [el]) (by rw [el]) (by rw [hci]) (by rw [hci]) (by rw [hci]) (Int.le_refl _)⟩
  · intro q f _ hj hon _ _ _ _ ho
    have hoi : (zc w.consumers i).On = true := by
      have e := zmf (C := w.consumers) hj hi (zamw w d.C q f)
      have ho' : (zc (znz w.consumers d.C (zamw w d.C q f)) i).On = true := ho
      rw [e] at ho'
      split at ho'
      · rename_i k; rw [k]; exact hon
      · exact ho'
    obtain ⟨ms, hm⟩ := ht i hi hoi
    exact ⟨ms, .cons hj hi hm ⟨rfl, rfl, rfl⟩ rfl rfl rfl rfl (Int.le_refl _)⟩
end Go.Proofs.YtmakmlnfbdablaaGreat.Ab
namespace Go.Proofs.YtmakmlnfbdablaaGreat.Ab
open Go Go.RowKit
set_option linter.unusedVariables false
set_option linter.unusedSimpArgs false
def zafs (k : Nat) (n : Nat) (f : Nat → Int) : List Power := match n with
  | 0 => []
  | n + 1 => ztk (k : Int) (f k) ++ zafs (k + 1) n f
theorem zaji (f : Nat → Int) : zef f = zafs 0 6 f := by rw [zuf]; rfl
theorem z64 {f g : Nat → Int} : ∀ (n k : Nat), (∀ v, k ≤ v → f v = g v) → zafs k n f = zafs k n g
  | 0, _, _ => rfl
  | n + 1, k, h => by
    show ztk _ (f k) ++ _ = ztk _ (g k) ++ _
    rw [h k (Nat.le_refl _), z64 n (k + 1) (fun v hv => h v (by omega))]
theorem z87 : ∀ {l : List Power} {p v : Int}, zw 1 p l = true → v ≤ p → zb1 l v = 0
  | [], _, _, _, _ => rfl
  | q :: l, p, v, h, hv => by
    rw [zw] at h
    simp only [Bool.and_eq_true, decide_eq_true_eq] at h
    obtain ⟨⟨⟨⟨h1, h2⟩, h3⟩, h4⟩, h5⟩ := h
    rw [zb1, if_neg (by omega)]
    exact z87 h5 (by omega)
theorem z11 : ∀ (n k : Nat) {l : List Power}, k + n = 6 → zw 1 ((k : Int) - 1) l = true → zafs k n (fP l) = l
  | 0, k, [], _, _ => rfl
  | 0, k, q :: l, e, h => by
    rw [zw] at h
    simp only [Bool.and_eq_true, decide_eq_true_eq] at h
    omega
  | n + 1, k, [], e, h => by
    show ztk (k : Int) 0 ++ zafs (k + 1) n (fP []) = []
    rw [z11 n (k + 1) (l := []) (by omega) rfl]; rfl
  | n + 1, k, q :: l, e, h => by
    have h0 := h
    rw [zw] at h
    simp only [Bool.and_eq_true, decide_eq_true_eq] at h
    obtain ⟨⟨⟨⟨h1, h2⟩, h3⟩, h4⟩, h5⟩ := h
    show ztk (k : Int) (fP (q :: l) k) ++ zafs (k + 1) n (fP (q :: l)) = q :: l
    by_cases c : q.V = (k : Int)
    · have e1 : fP (q :: l) k = q.N := by show zb1 (q :: l) (k : Int) = _; rw [zb1, if_pos c]
      have h6 : zw 1 (((k + 1 : Nat) : Int) - 1) l = true := by rw [c] at h5; rw [show (((k + 1 : Nat) : Int) - 1) = (k : Int) by omega]; exact h5
      rw [e1, z64 (f := fP (q :: l)) (g := fP l) n (k + 1) (fun v hv => by
        show zb1 (q :: l) (v : Int) = _
        rw [zb1, if_neg (by omega)]; rfl), z11 n (k + 1) (by omega) h6]
      unfold ztk
      rw [if_pos (by omega), ← c]
      rfl
    · have h6 : zw 1 (k : Int) (q :: l) = true := by
        rw [zw]
        simp only [Bool.and_eq_true, decide_eq_true_eq]
        exact ⟨⟨⟨⟨by omega, h2⟩, h3⟩, h4⟩, h5⟩
      have e1 : fP (q :: l) k = 0 := z87 h6 (Int.le_refl _)
      rw [e1, z11 n (k + 1) (by omega) (by rw [show (((k + 1 : Nat) : Int) - 1) = (k : Int) by omega]; exact h6)]
      rfl
theorem zam3 {l : List Power} (h : zw 1 (-1) l = true) : zef (fP l) = l := by rw [zaji]; exact z11 6 0 rfl h
theorem zajj {l : List Power} (h : zw 1 (-1) l = true) : zok l [] = l := zam3 h
def zam4 (w : Wld) : Prop := ∀ i : Int, 0 ≤ i ∧ i < 2 → (zc w.consumers i).On = true → (zh w.p.Links i).Out.Closed = false ∧ (((zh w.p.Links i).Out.Said.length : Nat) : Int) ≤ w.deeds
theorem zauq {w : Wld} (h : OkW w) (hd : w.deeds < 600) (ht : zam4 w) (d : Deed) : zam4 (doW w d).1 := by
  intro i hi
  refine (z4o h hd d (P := fun w' r => w'.deeds = w.deeds + 1 → (zc w'.consumers i).On = true → (zh w'.p.Links i).Out.Closed = false ∧ (((zh w'.p.Links i).Out.Said.length : Nat) : Int) ≤ w'.deeds) ?_ ?_ ?_ ?_ ?_ ?_ ?_ ?_ ?_ ?_ ?_ ?_ ?_ ?_ ?_) (zabc d hd)
  · intro w' r a _ e ho
    rw [a.c] at ho
    rw [a.p, e]
    have := ht i hi ho
    exact ⟨this.1, by omega⟩
  · intro _ _ e ho; have := ht i hi ho; rw [e]; exact ⟨this.1, by have := this.2; show (((zh w.p.Links i).Out.Said.length : Nat) : Int) ≤ _; omega⟩
  · intro _ _ e ho; have := ht i hi ho; rw [e]; exact ⟨this.1, by have := this.2; show (((zh w.p.Links i).Out.Said.length : Nat) : Int) ≤ _; omega⟩
  · intro _ _ e ho; have := ht i hi ho; rw [e]; exact ⟨this.1, by have := this.2; show (((zh w.p.Links i).Out.Said.length : Nat) : Int) ≤ _; omega⟩
  · intro _ _ _ _ e ho; have := ht i hi ho; rw [e]; exact ⟨this.1, by have := this.2; show (((zh w.p.Links i).Out.Said.length : Nat) : Int) ≤ _; omega⟩
  · intro _ _ _ e ho; have := ht i hi ho; rw [e]; exact ⟨this.1, by have := this.2; show (((zh w.p.Links i).Out.Said.length : Nat) : Int) ≤ _; omega⟩
  · intro _ e ho
    obtain ⟨o1, o2⟩ := ht i hi ho
    have hg : zad w.p = true ∧ w.p.Time ≤ w.clock ∧ w.clock ≤ 1099511627776 := ⟨h.pr, h.pt, by have := h.t1; omega⟩
    obtain ⟨D', -, hD⟩ := z4n hg hi
    rw [e]
    rcases hD with ⟨-, -, -, e4, -⟩ | ⟨-, -, -, -, -, -, -, -, e9⟩
    · have el : (zh (zzg w).p.Links i).Out = (zh w.p.Links i).Out := e4
      rw [el]; exact ⟨o1, by omega⟩
    · have el : (zh (zzg w).p.Links i).Out = _ := e9
      rw [el]
      refine ⟨o1, ?_⟩
      show (((ziq w.p.Links i).Said ++ [_]).length : Int) ≤ _
      rw [List.length_append]
      have o3 : (((w.p.Links.Said.get i).length : Nat) : Int) ≤ w.deeds := o2
      simp only [List.length_singleton]
      omega
  · intro _ hj hg hno _ _ e ho
    rw [e]
    have el : zh (zafp w d.C).p.Links i = _ := zkg (L := w.p.Links) (H := w.p.Height) (T := w.p.Set) (f := zxz w.p) hj hi
    by_cases k : i = d.C
    · rw [if_pos k] at el
      rw [el]
      refine ⟨rfl, ?_⟩
      have := h.d0
      show ((0 : Nat) : Int) ≤ _
      omega
    · have hci : zc (zafp w d.C).consumers i = zc w.consumers i := zat hj hi k _
      rw [hci] at ho
      rw [if_neg k] at el
      rw [el]
      obtain ⟨o1, o2⟩ := ht i hi ho
      exact ⟨o1, by omega⟩
  · intro _ hj hon e ho
    rw [e]
    have hoi : (zc w.consumers i).On = true := by
      by_cases k : i = d.C
      · rw [k]; exact hon
      · have hci : zc (zafq w d.C).consumers i = zc w.consumers i := zat hj hi k _
        rw [hci] at ho; exact ho
    obtain ⟨o1, o2⟩ := ht i hi hoi
    exact ⟨o1, by show (((zh w.p.Links i).Out.Said.length : Nat) : Int) ≤ _; omega⟩
  · intro _ hj _ _ e ho
    rw [e]
    obtain ⟨o1, o2⟩ := ht i hi ho
    have el : zh (zauj w d.C).p.Links i = _ := z6u (L := w.p.Links) hj hi (zapq w.heads d.C)
    rw [el]
    split
    · exact ⟨o1, by show (((zh w.p.Links i).Out.Said.length : Nat) : Int) ≤ _; omega⟩
    · exact ⟨o1, by omega⟩
  · intro _ hj hon _ e ho
    rw [e]
    have hoi : (zc w.consumers i).On = true := by
      by_cases k : i = d.C
      · rw [k]; exact hon
      · have hci : zc (znz w.consumers d.C { zc w.consumers d.C with Seen := zaiy w.heads d.C }) i = zc w.consumers i := zat hj hi k _
        have ho' : (zc (znz w.consumers d.C { zc w.consumers d.C with Seen := zaiy w.heads d.C }) i).On = true := ho
        rw [hci] at ho'; exact ho'
    obtain ⟨o1, o2⟩ := ht i hi hoi
    exact ⟨o1, by show (((zh w.p.Links i).Out.Said.length : Nat) : Int) ≤ _; omega⟩
  · intro q _ hj hon _ _ _ e ho
    rw [e]
    have hoi : (zc w.consumers i).On = true := by
      by_cases k : i = d.C
      · rw [k]; exact hon
      · have hci : zc (gotB w d.C q).consumers i = zc w.consumers i := zat hj hi k _
        rw [hci] at ho; exact ho
    obtain ⟨o1, o2⟩ := ht i hi hoi
    exact ⟨o1, by show (((zh w.p.Links i).Out.Said.length : Nat) : Int) ≤ _; omega⟩
  · intro q _ hj hon _ hcm hq1 e ho
    rw [e]
    have hoi : (zc w.consumers i).On = true := by
      by_cases k : i = d.C
      · rw [k]; exact hon
      · have hci : zc (gotF w d.C q).consumers i = zc w.consumers i := zat hj hi k _
        rw [hci] at ho; exact ho
    obtain ⟨o1, o2⟩ := ht i hi hoi
    have el : zh (gotF w d.C q).p.Links i = _ := ztj (L := w.p.Links) hj hi { (zh w.p.Links d.C).Out with Got := (zh w.p.Links d.C).Out.Got + 1 }
    rw [el]
    split
    · rename_i k
      rw [k] at o1 o2
      exact ⟨o1, by show (((zh w.p.Links d.C).Out.Said.length : Nat) : Int) ≤ _; omega⟩
    · exact ⟨o1, by omega⟩
  · intro _ hj hon _ e ho
    rw [e]
    by_cases k : i = d.C
    · have hci : zc (zafr w d.C).consumers d.C = _ := zfe hj _
      rw [k, hci] at ho; cases ho
    · have hci : zc (zafr w d.C).consumers i = zc w.consumers i := zat hj hi k _
      have el : zh (zafr w d.C).p.Links i = _ := zm9 (L := w.p.Links) hj hi
      rw [if_neg k] at el
      rw [hci] at ho
      rw [el]
      obtain ⟨o1, o2⟩ := ht i hi ho
      exact ⟨o1, by omega⟩
  · intro q f _ hj hon _ _ _ _ e ho
    rw [e]
    have hoi : (zc w.consumers i).On = true := by
      by_cases k : i = d.C
      · rw [k]; exact hon
      · have hci : zc (znz w.consumers d.C (zamw w d.C q f)) i = zc w.consumers i := zat hj hi k _
        have ho' : (zc (znz w.consumers d.C (zamw w d.C q f)) i).On = true := ho
        rw [hci] at ho'; exact ho'
    obtain ⟨o1, o2⟩ := ht i hi hoi
    exact ⟨o1, by show (((zh w.p.Links i).Out.Said.length : Nat) : Int) ≤ _; omega⟩
theorem zapy {w : Wld} (h : OkW w) (hd : w.deeds < 600) {d : Deed} (k : d.Kind = 6) : (doW w d).1 = zzg w := by
  have ht : zad w.p = true ∧ w.p.Time ≤ w.clock ∧ w.clock ≤ 1099511627776 := ⟨h.pr, h.pt, by have := h.t1; omega⟩
  unfold doW
  rw [if_neg (by omega)]
  unfold actW
  rw [if_neg (by omega), if_neg (by omega), if_neg (by omega), if_neg (by omega), if_neg (by omega), if_pos k]
  unfold zlq
  rw [if_neg (by show ¬ (zjh w.p w.clock).2.2 ≠ 0; rw [zaff ht]; simp)]
  rfl
theorem zajk {w : Wld} (h : OkW w) (hd : w.deeds < 120) (ho : zam4 w) {i : Int} (hi : 0 ≤ i ∧ i < 2) (hon : (zc w.consumers i).On = true) : (zh (zzg w).p.Links i).Told = (zzg w).p.Set := by
  have hg : zad w.p = true ∧ w.p.Time ≤ w.clock ∧ w.clock ≤ 1099511627776 := ⟨h.pr, h.pt, by have := h.t1; omega⟩
  obtain ⟨o1, o2⟩ := ho i hi hon
  obtain ⟨D', -, hD⟩ := z4n hg hi
  obtain ⟨r1, r2, r3, r4, -⟩ := z1z hg
  have hset : zef (fP (zjh w.p w.clock).1.Set) = (zjh w.p w.clock).1.Set := by rw [r4]; exact z3o _
  show (zjh w.p w.clock).1.Links.Told.get i = (zjh w.p w.clock).1.Set
  rcases hD with ⟨e1, -, -, -, e5⟩ | ⟨e1, -⟩
  · rw [e1]
    rcases e5 with e5 | e5 | e5 | e5
    · rw [← (h.c i hi).on, hon] at e5; cases e5
    · have a1 := zahg (told := w.p.Links.Told.get i) hset
      rw [e5.1, zajj (h.p.lk hi).told] at a1
      exact a1
    · have e5 : (zh w.p.Links i).Out.Closed = true := e5
      rw [o1] at e5; cases e5
    · have e5 : 400 ≤ (zh w.p.Links i).Out.Said.length := e5
      omega
  · exact e1
theorem zadq : ∀ {l : List Packet} {s : List Power}, s.length ≤ 9223372036854775807 → (z36 s l).length ≤ 9223372036854775807
  | [], _, h => h
  | q :: l, s, _ => zadq (l := l) (by have := ztb (fun v => zw9 q.Set v (zb1 s v)); show (zef _).length ≤ _; omega)
theorem zam5 {i : Int} {w : Wld} {d : Deed} {p : za} : ∀ (m : List Packet) {l : List Packet} {k : Nat} {s : List Power} {id : Int}, l.drop k = m → k ≤ l.length → l.length ≤ 140737488351232 → (∀ q, q ∈ l → q.Set.length ≤ 9223372036854775807) → s.length ≤ 9223372036854775807 →
    zd9 i s id l ((l.length : Nat) : Int) (k : Int) w d p = some (i, z36 s m, zado id m, w, d, p)
  | [], l, k, s, id, e, hk, hl, hq, hs => by
    have : l.length ≤ k := List.drop_eq_nil_iff.1 e
    rw [zd9]
    refine ze4 ?_
    simp only [zhd]
    rw [Tr.run_false (by simp; omega), Tr.run_leaf]
    rfl
  | q :: m, l, k, s, id, e, hk, hl, hq, hs => by
    have hlt : k < l.length := by
      rcases Nat.lt_or_ge k l.length with h | h
      · exact h
      · rw [List.drop_eq_nil_iff.2 h] at e; cases e
    rw [zay hlt default] at e
    obtain ⟨e1, e2⟩ := List.cons.inj e
    have hqm : q ∈ l := by rw [← e1]; exact zfk hlt default
    have ha := zaak hs (hq q hqm)
    have ih := zam5 (i := i) (w := w) (d := d) (p := p) m (l := l) (k := k + 1) (s := zok s q.Set) (id := q.Id) e2 hlt hl hq (by have := ztb (fun v => zw9 q.Set v (zb1 s v)); show (zef _).length ≤ _; omega)
    rw [zd9] at ih ⊢
    rw [zde (s' := (i, zok s q.Set, q.Id, l, ((l.length : Nat) : Int), ((k + 1 : Nat) : Int), w, d, p))]
    · exact ih
    · simp only [zhd, Int.toNat_natCast]
      rw [e1, Tr.run_true (by simpa using hlt), Tr.run_guard ⟨by omega, by show (k : Int) < ((l.length : Nat) : Int); omega⟩, ha, Tr.run_guard (by rfl), Tr.run_leaf, zx (by omega)]
      rfl
theorem zam6 {i : Int} {w : Wld} {d : Deed} {p : za} {L : zeg} : ∀ (m : List Packet) {k : Nat} {s : List Power} {id : Int}, L.Said.drop k = m.map pkT → k ≤ L.Said.length → L.Said.length ≤ 400 → (∀ q, q ∈ m → zeb q = 0 ∧ q.Kind = 1) → zabe id m → s.length ≤ 9223372036854775807 →
    zea i s id (k : Int) w d p L = some (.inr (i, z36 s m, w, d, p))
  | [], k, s, id, e, hk, hl, hq, hr, hs => by
    have : L.Said.length ≤ k := List.drop_eq_nil_iff.1 e
    rw [zea]
    refine ze4 ?_
    simp only [zhe]
    rw [Tr.run_false (by simp; omega), Tr.run_leaf]
    rfl
  | q :: m, k, s, id, e, hk, hl, hq, hr, hs => by
    have hlt : k < L.Said.length := by
      rcases Nat.lt_or_ge k L.Said.length with h | h
      · exact h
      · rw [List.drop_eq_nil_iff.2 h] at e; cases e
    rw [zay hlt .empty, List.map_cons] at e
    obtain ⟨e1, e2⟩ := List.cons.inj e
    obtain ⟨g1, g2⟩ := hq q (List.mem_cons_self ..)
    have hls : q.Set.length ≤ 9223372036854775807 := by
      have := zd2 (zgz g1).2.2.2.2.2.2.2.2.1 (by omega)
      omega
    have ha := zaak hs hls
    have hdec : zcz (pkT q) = some (q, 0) := by
      rw [pkT, z57 (by have f := zgz g1; have y1 := zd2 f.2.2.2.2.2.2.2.2.1 (by omega); have y2 := ztc f.2.2.2.2.2.2.2.2.2.1 (by omega); rw [zul]; omega), z58 g1]
    have ih := zam6 (i := i) (w := w) (d := d) (p := p) (L := L) m (k := k + 1) (s := zok s q.Set) (id := q.Id) e2 hlt hl (fun r hr => hq r (List.mem_cons_of_mem _ hr)) hr.2 (by have := ztb (fun v => zw9 q.Set v (zb1 s v)); show (zef _).length ≤ _; omega)
    rw [zea] at ih ⊢
    rw [zde (s' := (i, zok s q.Set, q.Id, ((k + 1 : Nat) : Int), w, d, p, L))]
    · exact ih
    · simp only [zhe, Int.toNat_natCast]
      rw [e1, Tr.run_true (by simpa using hlt), Tr.run_guard ⟨by omega, by show (k : Int) < ((L.Said.length : Nat) : Int); omega⟩, Tr.run_bind hdec, Tr.run_false (by
        have := hr.1
        simp only [g2]
        simp; omega), ha, Tr.run_guard (by rfl), Tr.run_leaf, zx (by omega)]
      rfl
theorem zajl {l : List Power} (hl : l.length ≤ 9223372036854775807) : zcp l l = some true := by
  have key : ziw l l 0 = some (.inr ()) := by
    rw [ziw]
    refine (zaai (F := fun s : (List Power) × (List Power) × Int => (zd8 s.1 s.2.1 s.2.2).run) l default (fun i => (l, l, (i : Int))) (fun _ => true) false () ?_ ?_ ?_).trans ?_
    · simp only [zd8]; rw [Tr.run_false (by simp), Tr.run_leaf]
    · intro i hi _
      simp only [zd8, Int.toNat_natCast]
      rw [Tr.run_true (by simpa using hi), Tr.run_guard ⟨by omega, by rw [zao]; omega⟩, Tr.run_guard ⟨by omega, by rw [zao]; omega⟩, Tr.run_false (by simp), Tr.run_leaf, zx (by omega)]
    · intro i hi hp; cases hp
    · rw [if_pos (by simp)]
  rw [zcp, zjt, Tr.run_false (by simp), Tr.run_inr key, Tr.run_leaf]
theorem zam7 {w : Wld} (h : OkW w) (d : Deed) (r : Reply) (ht : zam1 w) (hb : d.Kind = 6 → ∀ i : Int, 0 ≤ i ∧ i < 2 → (zc w.consumers i).On = true → (zh w.p.Links i).Told = w.p.Set) : zdt d r w = some (true, w) := by
  have turn : ∀ (i : Nat), i < 2 → (zdp (i : Int) w d w.p).run = some (.inl (((i + 1 : Nat) : Int), w, d, w.p)) := by
    intro i hi
    have hi' : 0 ≤ (i : Int) ∧ (i : Int) < 2 := by omega
    have hw := h.c i hi'
    simp only [zdp]
    rw [Tr.run_true (by simp; omega), Tr.run_bind (zamy h hi')]
    cases hon : (zc w.consumers (i : Int)).On with
    | false => rw [Tr.run_true (by rfl), Tr.run_leaf, zx (by omega)]
    | true =>
      obtain ⟨ms, a1, a2, a3, a4, a5, a6⟩ := ht i hi' hon
      obtain ⟨c1, c2, c3, c4, c5⟩ := zcr hw.good
      have gl := (h.p.lk hi').line
      have z0 : 0 ≤ (zh w.p.Links (i : Int)).Out.Got := gl.2.2.1
      have z1 : (zh w.p.Links (i : Int)).Out.Got ≤ (((zh w.p.Links (i : Int)).Out.Said.length : Nat) : Int) := gl.2.2.2.1
      have z2 : (zh w.p.Links (i : Int)).Out.Said.length ≤ 400 := gl.2.1
      have hpl : (zc w.consumers (i : Int)).Pending.length ≤ 140737488351232 := by have := hw.size; have := h.d1; omega
      have hset : (zc w.consumers (i : Int)).Set.length ≤ 9223372036854775807 := by have := zd2 c3 (by omega); omega
      have hps : ∀ q, q ∈ (zc w.consumers (i : Int)).Pending → q.Set.length ≤ 9223372036854775807 := by
        intro q hq
        have hg : zeb q = 0 := by have := List.all_eq_true.1 c5 q hq; unfold zny at this; simp only [Bool.and_eq_true, beq_iff_eq] at this; exact this.2
        have := zd2 (zgz hg).2.2.2.2.2.2.2.2.1 (by omega)
        omega
      have k1 := zam5 (i := (i : Int)) (w := w) (d := d) (p := w.p) (zc w.consumers (i : Int)).Pending (l := (zc w.consumers (i : Int)).Pending) (k := 0) (s := (zc w.consumers (i : Int)).Set) (id := (zc w.consumers (i : Int)).Id) rfl (Nat.zero_le _) hpl hps hset
      have hl1 := zadq (l := (zc w.consumers (i : Int)).Pending) hset
      have k2 := zam6 (i := (i : Int)) (w := w) (d := d) (p := w.p) (L := (zh w.p.Links (i : Int)).Out) ms (k := (zh w.p.Links (i : Int)).Out.Got.toNat) (s := z36 (zc w.consumers (i : Int)).Set (zc w.consumers (i : Int)).Pending) (id := zado (zc w.consumers (i : Int)).Id (zc w.consumers (i : Int)).Pending) a1 (by omega) z2 a2 (rises_app.1 a3).2 hl1
      rw [Int.toNat_of_nonneg z0, ← z63, a6] at k2
      have hs := zajl (l := (zh w.p.Links (i : Int)).Told) (by have := zd2 (h.p.lk hi').told (by omega); show (w.p.Links.Told.get (i : Int)).length ≤ _; omega)
      have hs' : zcp (zh w.p.Links (i : Int)).Told (w.p.Links.Told.get (i : Int)) = some true := hs
      have k1 : zd9 (i : Int) (zc w.consumers (i : Int)).Set (zc w.consumers (i : Int)).Id (zc w.consumers (i : Int)).Pending (((zc w.consumers (i : Int)).Pending.length : Nat) : Int) 0 w d w.p = _ := k1
      have k2 : zea (i : Int) (z36 (zc w.consumers (i : Int)).Set (zc w.consumers (i : Int)).Pending) (zado (zc w.consumers (i : Int)).Id (zc w.consumers (i : Int)).Pending) (w.p.Links.Got.get (i : Int)) w d w.p (zh w.p.Links (i : Int)).Out = _ := k2
      rw [Tr.run_false (by rfl), Tr.run_bind k1, Tr.run_guard hi', Tr.run_inr k2, Tr.run_guard hi', Tr.run_bind hs']
      have hset2 : d.Kind = 6 → zcp (zh w.p.Links (i : Int)).Told w.p.Set = some true := by
        intro k6
        rw [← hb k6 i hi' hon]; exact hs
      rw [Tr.run_guard (fun k _ => ⟨by rw [hset2 (by simpa using k)]; rfl, trivial⟩), Tr.run_false (by
        by_cases k6 : d.Kind = 6
        · simp only [hset2 k6]; simp
        · simp [k6]), Tr.run_leaf, zx (by omega)]
  have loop : zj5 0 w d w.p = some (.inr w) := by
    rw [zj5, zde (s' := (((1 : Nat) : Int), w, d, w.p)) (turn 0 (by omega)), zde (s' := (((2 : Nat) : Int), w, d, w.p)) (turn 1 (by omega)), ze4 (r := .inr w) (by
      show (zdp 2 w d w.p).run = _
      simp only [zdp]
      rw [Tr.run_false (by simp), Tr.run_leaf])]
  rw [zdt, zll, Tr.run_bind (zamx h), Tr.run_inr loop, Tr.run_leaf]
theorem zapz : zam1 newW := by
  intro i hi ho
  rcases (show i = 0 ∨ i = 1 by omega) with rfl | rfl <;> cases ho
theorem zap0 : zam4 newW := by
  intro i hi ho
  rcases (show i = 0 ∨ i = 1 by omega) with rfl | rfl <;> cases ho
theorem zajm {l : List Deed} (hl : zamz l) : zm7 l = some true := by
  obtain ⟨w, h1, -⟩ := zaje (look := zdt) (fun w => zam1 w ∧ zam4 w) ⟨zapz, zap0⟩ hl (fun w d h hj h120 => by
    have t1 := zaup h (by omega) hj.1 d
    have t2 := zauq h (by omega) hj.2 d
    refine ⟨⟨t1, t2⟩, zam7 (z61 h d) d _ t1 ?_⟩
    intro k6 i hi hon
    rw [zapy h (by omega) k6] at hon ⊢
    exact zajk h h120 hj.2 hi hon)
  have h1 : zqj l 0 newW = some (.inr w) := h1
  rw [zm7, zpg, Tr.run_bind (v := (true, w)) (by
    rw [zvg, zlm, Tr.run_bind zahl, Tr.run_false (by rfl), Tr.run_bind zafm, Tr.run_inr h1, Tr.run_leaf]), Tr.run_leaf]
end Go.Proofs.YtmakmlnfbdablaaGreat.Ab
