/-
  The walk over abstract states.
-/
import Derived.Test.YtobfadhgiaphnaaGreatXAbCanon
namespace Go.Proofs.YtobfadhgiaphnaaGreat.Ab
open Go Go.RowKit
set_option linter.unusedSimpArgs false
set_option linter.unusedVariables false
def zq7 {α : Type} (q : LQ α) (n L : Nat) (p : Pat) (ps : List BS) (st : St) : Option α :=
 if st.n = n then
  let s := st.fix p.fx
  let m := zck L (p.ds.map s.slot) s.blk
  if m.length = ps.length then match zam ps (zg m 0 s.blks) with
   | some xs => match q.P ((p.ds.map fun d => (s.slot d).re (zbl m)) ++ xs) with
    | some (a, []) => some a
    | _ => none
   | none => none
  else none
 else none
def stP {α : Type} (q : LQ α) (n N : Nat) (p : Pat) (ps : List BS) (a : α) : St :=
 ⟨n, p.ds.zip (q.e a), zz ps ((q.e a).drop p.ds.length) ++ List.replicate N .free⟩
theorem zle (f : Nat → AV) : ∀ (ds : List Nat) (ys : List AV), (∀ i, i < ds.length → ziq (f (ds.getD i 0)) (ys.getD i .any)) → ds.length ≤ ys.length → ∀ d,
  (d ∈ ds ∧ ziq (f d) (lk (ds.zip ys) d)) ∨ (d ∉ ds ∧ lk (ds.zip ys) d = .any)
 | [], _, _, _, d => .inr ⟨by simp, rfl⟩
 | x :: ds, [], _, h, d => by simp at h
 | x :: ds, y :: ys, h, hl, d => by
  simp only [List.zip_cons_cons, lk]
  by_cases e : d = x
  ·subst e
   rw [if_pos rfl]
   exact .inl ⟨by simp, h 0 (by simp)⟩
  ·rw [if_neg e]
   rcases zle f ds ys (fun i hi => by simpa using h (i + 1) (by simpa using hi)) (by simpa using hl) d with ⟨h1, h2⟩ | ⟨h1, h2⟩
   ·exact .inl ⟨List.mem_cons_of_mem _ h1, h2⟩
   ·exact .inr ⟨by simp [e, h1], h2⟩
theorem zf8 (m : List Nat) (N : Nat) (blks : List Blk) : zg m N blks = zg m 0 blks ++ List.replicate N Blk.free := by unfold zg; simp
theorem zhj {ps : List BS} {m : List Nat} {N : Nat} {blks : List Blk} {xs ys : List AV} (hl : m.length = ps.length) (h : zam ps (zg m 0 blks) = some xs) (hn : NormL xs ys) :
  ∀ k, BN ((zg m N blks).getD k .dead) ((zz ps ys ++ List.replicate N Blk.free).getD k .dead) := by
 obtain ⟨rest, h1, h2⟩ := zdi h hn
 have hcl : (zg m 0 blks).length = ps.length := by simp [zg, hl]
 intro k
 rw [zf8]
 by_cases hk : k < ps.length
 ·rw [List.getD_eq_getElem?_getD, List.getElem?_append_left (by omega), List.getD_eq_getElem?_getD, List.getElem?_append_left (by rw [zab]; exact hk), ← List.getD_eq_getElem?_getD, ← List.getD_eq_getElem?_getD]
  exact h2 k hk
 ·rw [List.getD_eq_getElem?_getD, List.getElem?_append_right (by omega), List.getD_eq_getElem?_getD, List.getElem?_append_right (by rw [zab]; omega), hcl, zab]
  exact .same
theorem zd1 {l1 l2 ys : List AV} (h : NormL (l1 ++ l2) ys) : (∀ i, i < l1.length → ziq (l1.getD i .any) (ys.getD i .any)) ∧ l1.length ≤ ys.length ∧ NormL l2 (ys.drop l1.length) := by
 refine ⟨fun i hi => ?_, ?_, ?_⟩
 ·have := h.2 i (by simp; omega)
  rwa [List.getD_eq_getElem?_getD, List.getElem?_append_left hi, ← List.getD_eq_getElem?_getD] at this
 ·have := h.1; simp at this; omega
 ·have := h.drop l1.length
  rwa [List.drop_left' rfl] at this
theorem zlf {α : Type} {q : LQ α} {n L : Nat} {p : Pat} {ps : List BS} {st : St} {a : α} (h : zq7 q n L p ps st = some a) {G : Gl} (hG : zka G L) {x : Act} {w : World} (hi : Inv G st x w) (N : Nat) :
  Inv G (stP q n N p ps a) x w := by
 have hc := hi.canon hG N p
 unfold zq7 at h
 split at h
 ·rename_i hn
  simp only at h
  split at h
  ·rename_i hl
   split at h
   ·rename_i xs hf
    split at h
    ·rename_i a' hq
     simp only [Option.some.injEq] at h
     subst h
     obtain ⟨l1, e1, hnorm⟩ := q.ok _ _ _ hq
     rw [List.append_nil] at e1
     rw [← e1] at hnorm
     obtain ⟨k1, k2, k3⟩ := zd1 hnorm
     rw [List.length_map] at k1 k2 k3
     obtain ⟨nu, hinv⟩ := hc
     obtain ⟨m1, m2⟩ := hinv.mem.weaken (zhj (N := N) hl hf k3)
     refine ⟨nu, m1, hinv.size.trans hn, hinv.defers, fun d hd => ?_⟩
     have hs := hinv.slots d (by show d < st.n; rw [hn]; exact hd)
     have e2 : (stP q n N p ps a').slot d = lk (p.ds.zip (q.e a')) d := if_pos hd
     have e3 : (st.canon N L p).slot d = if d ∈ p.ds then ((st.fix p.fx).slot d).re (zbl (zck L (p.ds.map (st.fix p.fx).slot) (st.fix p.fx).blk)) else .any :=
      (if_pos (show d < st.n by rw [hn]; exact hd)).trans (zjp (fun d => ((st.fix p.fx).slot d).re (zbl (zck L (p.ds.map (st.fix p.fx).slot) (st.fix p.fx).blk))) p.ds d)
     rw [e2]
     rw [e3] at hs
     rcases zle (fun d => ((st.fix p.fx).slot d).re (zbl (zck L (p.ds.map (st.fix p.fx).slot) (st.fix p.fx).blk))) p.ds (q.e a') (fun i hi => by
       have := k1 i hi
       rwa [zbi (fun d => ((st.fix p.fx).slot d).re (zbl (zck L (p.ds.map (st.fix p.fx).slot) (st.fix p.fx).blk))) p.ds i 0 .any hi] at this) k2 d with ⟨h1, h2⟩ | ⟨h1, h2⟩
     ·rw [if_pos h1] at hs
      exact m2 _ _ (hs.norm h2)
     ·rw [h2]; exact .any
    ·cases h
   ·cases h
  ·cases h
 ·cases h
def zdn {σ ρ : Type} (F : σ → Option (σ ⊕ ρ)) : Nat → σ → Option ρ
 | 0, _ => none
 | n + 1, s => match F s with
  | none => none
  | some (.inl s') => zdn F n s'
  | some (.inr r) => some r
open Classical in
noncomputable def zev {σ ρ : Type} (F : σ → Option (σ ⊕ ρ)) (s : σ) : Option ρ := if h : ∃ r n, zdn F n s = some r then some (Classical.choose h) else none
theorem ze0 {σ ρ : Type} {F : σ → Option (σ ⊕ ρ)} : ∀ {n : Nat} {s : σ} {r : ρ} (k : Nat), zdn F n s = some r → zdn F (n + k) s = some r
 | 0, s, r, k, h => by cases h
 | n + 1, s, r, k, h => by
  rw [show n + 1 + k = (n + k) + 1 by omega]
  simp only [zdn] at h ⊢
  split at h
  ·cases h
  ·exact ze0 k h
  ·exact h
theorem zlg {σ ρ : Type} {F : σ → Option (σ ⊕ ρ)} {n m : Nat} {s : σ} {r r' : ρ} (h : zdn F n s = some r) (h' : zdn F m s = some r') : r = r' := by
 have h1 := ze0 m h
 have h2 := ze0 n h'
 rw [Nat.add_comm] at h2
 rw [h1] at h2
 exact Option.some.inj h2
theorem zei {σ ρ : Type} {F : σ → Option (σ ⊕ ρ)} {s : σ} {r : ρ} (h : zev F s = some r) : ∃ n, zdn F n s = some r := by
 unfold zev at h
 split at h
 ·rename_i hx
  simp only [Option.some.injEq] at h
  rw [← h]
  exact Classical.choose_spec hx
 ·cases h
theorem zi5 {σ ρ : Type} {F : σ → Option (σ ⊕ ρ)} {s : σ} {r : ρ} {n : Nat} (h : zdn F n s = some r) : zev F s = some r := by
 have hx : ∃ r n, zdn F n s = some r := ⟨r, n, h⟩
 unfold zev
 rw [dif_pos hx]
 obtain ⟨m, hm⟩ := Classical.choose_spec hx
 rw [zlg hm h]
theorem zhk {σ ρ : Type} {F : σ → Option (σ ⊕ ρ)} (s : σ) : zev F s = match F s with
  | none => none
  | some (.inl s') => zev F s'
  | some (.inr r) => some r := by
 cases hF : F s with
 | none =>
  cases h : zev F s with
  | none => rfl
  | some r =>
   obtain ⟨n, hn⟩ := zei h
   cases n with
   | zero => cases hn
   | succ n => simp [zdn, hF] at hn
 | some x =>
  cases x with
  | inr r => exact zi5 (n := 1) (by simp [zdn, hF])
  | inl s' =>
   simp only
   cases h : zev F s' with
   | some r =>
    obtain ⟨n, hn⟩ := zei h
    exact zi5 (n := n + 1) (by simp [zdn, hF, hn])
   | none =>
    cases h' : zev F s with
    | none => rfl
    | some r =>
     obtain ⟨n, hn⟩ := zei h'
     cases n with
     | zero => cases hn
     | succ n =>
      simp only [zdn, hF] at hn
      rw [zi5 hn] at h; cases h
structure End (ρ : Type) where
 β : Type
 q : LQ β
 p : Pat
 ps : List BS
 wrap : β → ρ
def zmg {ρ : Type} (n L : Nat) (E : Exit → Option (End ρ)) (e : Exit) (s : St) : Tr ρ :=
 match E e with
 | some d => match zq7 d.q n L d.p d.ps s with
  | some b => .leaf (d.wrap b)
  | none => .fail
 | none => .fail
def zlh {ρ : Type} (n N : Nat) (E : Exit → Option (End ρ)) (out : ρ → Exit × St) : Prop :=
 ∀ e d, E e = some d → ∀ b, out (d.wrap b) = (e, stP d.q n N d.p d.ps b)
theorem zli {ρ : Type} {n L N : Nat} {E : Exit → Option (End ρ)} {out : ρ → Exit × St} (hE : zlh n N E out) {e : Exit} {s : St} {r : ρ} (h : (zmg n L E e s).all (fun x => x = r)) {G : Gl} (hG : zka G L) {x : Act} {w : World}
  (hi : Inv G s x w) : e = (out r).1 ∧ Inv G (out r).2 x w := by
 unfold zmg at h
 split at h
 ·rename_i d hd
  split at h
  ·rename_i b hb
   have hr : d.wrap b = r := h
   have := hE e d hd b
   rw [hr] at this
   rw [this]
   exact ⟨rfl, zlf hb hG hi N⟩
  ·exact h.elim
 ·exact h.elim
def zia : Code → Code
 | .loop c => c
 | c => c
noncomputable def zlj {σ ρ : Type} (q : LQ σ) (n L : Nat) (p : Pat) (ps : List BS) (R : Option ρ → LR) (f : σ → Option ρ) (st : St) : Option LR :=
 match zq7 q n L p ps st with
 | some a => some (R (f a))
 | none => none
section pieces
variable {Y : EnvT} {A : Ann}
theorem zn3 (hY : Y.Ok) (hm : Y.P.follows .mixedOrders = true) {root : Code} {L : Nat} (hA : zgq Y.env L root A.cut) {π : List Nat} {c : Code} (hc : sub root π = .loop c)
  {σ ρ : Type} (q : LQ σ) (n N : Nat) (p : Pat) (ps : List BS) (E : Exit → Option (End (σ ⊕ ρ))) (T : σ → Tr (σ ⊕ ρ)) (out : σ ⊕ ρ → Exit × St) (hE : zlh n N E out)
  (h1 : ∀ b, out (.inl b) = (.normal, stP q n N p ps b)) (h2 : ∀ r, (out (.inr r)).1 ≠ .normal) (R : Option ρ → LR) (hR : ∀ o Q, (R o).all Q → ∃ r, o = some r ∧ Q (out (.inr r)).1 (out (.inr r)).2)
  (hT : ∀ a, zkb Y A c (0 :: π) (stP q n N p ps a) (zmg n L E) = T a) :
  zbs Y.env L (sub root π) (zlj q n L p ps R (fun a => zev (fun s => (T s).run) a)) := by
 rw [hc]; unfold zlj
 intro st R' hst G hG Q hQ
 simp only at hst
 split at hst
 ·rename_i a ha
  simp only [Option.some.injEq] at hst
  subst hst
  obtain ⟨r, hr, hq⟩ := hR _ _ hQ
  obtain ⟨n0, hn0⟩ := zei hr
  intro x w hi
  refine wp_loop_ghost (fun k x w => ∃ a, zdn (fun s => (T s).run) k a = some r ∧ Inv G (stP q n N p ps a) x w) n0 ⟨a, hn0, zlf ha hG hi N⟩ ?_
  rintro k x w ⟨a, hk, hinv⟩
  cases k with
  | zero => cases hk
  | succ k =>
   simp only [zdn] at hk
   have body : ∀ y, (T a).run = some y → c.wp Y.P (fun e x' w' => e = (out y).1 ∧ Inv G (out y).2 x' w') x w := by
    intro y hy
    have h3 := Tr.run_all _ hy
    rw [← hT a] at h3
    refine wp_mono (za2 hY hm hG hA c (0 :: π) (by rw [sub, hc]; rfl) _ _ h3 x w hinv) fun e x' w' hq' => ?_
    obtain ⟨s, k1, k2⟩ := hq'
    exact zli hE k1 hG k2
   split at hk
   ·cases hk
   ·rename_i s' hs
    refine wp_mono (body _ hs) fun e x' w' hq' => ?_
    rw [h1] at hq'
    obtain ⟨rfl, k2⟩ := hq'
    exact ⟨k, Nat.lt_succ_self k, s', hk, k2⟩
   ·rename_i r' hs
    simp only [Option.some.injEq] at hk
    subst hk
    refine wp_mono (body _ hs) fun e x' w' hq' => ?_
    obtain ⟨e1, k2⟩ := hq'
    have hne := h2 r'
    have : ∃ st', Q e st' ∧ Inv G st' x' w' := ⟨_, e1 ▸ hq, k2⟩
    rw [← e1] at hne
    cases e <;> first
     | exact absurd rfl hne
     | exact this
 ·cases hst
structure EndD (β : Type) where
 q : LQ β
 p : Pat
 s : List BS
def EndD.at {β : Type} (d : EndD β) (n N : Nat) (v : β) : St := stP d.q n N d.p d.s v
def zmh : Exit → Exit → Bool
 | .normal, .normal => true
 | .ret, .ret => true
 | .exit a, .exit b => Nat.beq a b
 | _, _ => false
omit Y A in
theorem zi6 {a b : Exit} (h : zmh a b = true) : a = b := by
 cases a <;> cases b <;> first
  | rfl
  | (simp only [zmh] at h; rw [Nat.eq_of_beq_eq_true h])
  | (simp [zmh] at h)
omit Y A in
theorem zlk {a : Exit} (h : zmh a .normal = false) : a ≠ .normal := by rintro rfl; cases h
section ends
variable {σ β γ : Type} (n N L : Nat) (a : EndD σ) (x : Exit) (b : EndD β) (y : Exit) (c : EndD γ)
def E2 (e : Exit) : Option (End (σ ⊕ (β ⊕ γ))) := match zmh e .normal with
 | true => some ⟨σ, a.q, a.p, a.s, .inl⟩
 | false => match zmh e x with
  | true => some ⟨β, b.q, b.p, b.s, fun v => .inr (.inl v)⟩
  | false => match zmh e y with
   | true => some ⟨γ, c.q, c.p, c.s, fun v => .inr (.inr v)⟩
   | false => none
def O2 : σ ⊕ (β ⊕ γ) → Exit × St
 | .inl v => (.normal, a.at n N v)
 | .inr (.inl v) => (x, b.at n N v)
 | .inr (.inr v) => (y, c.at n N v)
omit Y A in
theorem zrl : zlh n N (E2 a x b y c) (O2 n N a x b y c) := by
 intro e d h v
 unfold E2 at h
 split at h
 ·rename_i he; cases h; rw [zi6 he]; rfl
 ·split at h
  ·rename_i he; cases h; rw [zi6 he]; rfl
  ·split at h
   ·rename_i he; cases h; rw [zi6 he]; rfl
   ·cases h
noncomputable def L2 (T : σ → Tr (σ ⊕ (β ⊕ γ))) : St → Option LR := zlj a.q n L a.p a.s (fun o => LR.two o (fun r => (x, b.at n N r)) (fun r => (y, c.at n N r))) (fun v => zev (fun s => (T s).run) v)
end ends
theorem zib (hY : Y.Ok) (hm : Y.P.follows .mixedOrders = true) {root : Code} {L : Nat} (hA : zgq Y.env L root A.cut) {π : List Nat} {k : Code} (hc : sub root π = .loop k) {σ β γ : Type} {n N : Nat} {a : EndD σ} {x : Exit} {b : EndD β} {y : Exit} {c : EndD γ}
  (hx : zmh x .normal = false) (hy : zmh y .normal = false) {T : σ → Tr (σ ⊕ (β ⊕ γ))} (hT : ∀ v, zkb Y A k (0 :: π) (a.at n N v) (zmg n L (E2 a x b y c)) = T v) : zbs Y.env L (sub root π) (L2 n N L a x b y c T) :=
 zn3 hY hm hA hc a.q n N a.p a.s (E2 a x b y c) T (O2 n N a x b y c) (zrl n N a x b y c) (fun _ => rfl) (fun r => by cases r; exact zlk hx; exact zlk hy) _
  (fun _ _ h => Or.elim h (fun ⟨v, h1, h2⟩ => ⟨_, h1, h2⟩) (fun ⟨v, h1, h2⟩ => ⟨_, h1, h2⟩)) hT
end pieces
def zq8 {ρ : Type} (P : Program) (fn : Func) (Lc : Nat) (fx : List Fx) (q : LQ ρ) (ps : List BS) (s : St) : Option ρ :=
 let s1 := s.fix fx
 match zef P s1 fn.results.toList with
 | some xs =>
  let m := zck Lc xs s1.blk
  if m.length = ps.length then match zam ps (zg m 0 s1.blks) with
   | some zs => match q.P (AV.reL (zbl m) xs ++ zs) with
    | some (r, []) => some r
    | _ => none
   | none => none
  else none
 | none => none
def zrm {ρ : Type} (P : Program) (fn : Func) (Lc : Nat) (fx : List Fx) (q : LQ ρ) (ps : List BS) (e : Exit) (s : St) : Tr ρ :=
 match e with
 | .ret => match zq8 P fn Lc fx q ps s with
  | some r => .leaf r
  | none => .fail
 | .normal => match zq8 P fn Lc fx q ps s with
  | some r => .leaf r
  | none => .fail
 | _ => .fail
def zll {α : Type} (fn : Func) (N : Nat) (q : LQ α) (na : Nat) (ps : List BS) (a : α) : St :=
 ⟨fn.ntmps, (List.range na).zip (q.e a), zz ps ((q.e a).drop na) ++ List.replicate N .free⟩
def zlm (m : List Nat) (Lc id k : Nat) : Nat := if k < Lc then m.getD k 0 else id + (k - Lc)
def zd2 (m : List Nat) (Lc id k : Nat) : Option Nat := some (zlm m Lc id k)
def zb4 (bk : Nat → Blk) (id : Nat) : Nat → Bool
 | 0 => true
 | n + 1 => (match bk id with | .free => true | _ => false) && zb4 bk (id + 1) n
theorem zc8 {bk : Nat → Blk} : ∀ {n id : Nat}, zb4 bk id n = true → ∀ i, id ≤ i → i < id + n → bk i = .free
 | 0, id, _, i, h1, h2 => by omega
 | n + 1, id, h, i, h1, h2 => by
  simp only [zb4, Bool.and_eq_true] at h
  by_cases e : i = id
  ·subst e
   have := h.1
   split at this
   ·assumption
   ·cases this
  ·exact zc8 h.2 i (by omega) (by omega)
def zdp (m : List Nat) (Lc id nout : Nat) (fb : List Blk) : List (Nat × Blk) :=
 (List.range Lc).map (fun k => (m.getD k 0, (fb.getD k .dead).re (zd2 m Lc id))) ++
 ((m.drop Lc).map (fun i => (i, .dead)) ++
 (List.range nout).map (fun k => (id + k, (fb.getD (Lc + k) .dead).re (zd2 m Lc id))))
noncomputable def zej {α ρ : Type} (Lc : Nat) (qa : LQ α) (na : Nat) (ps : List BS) (T : α → Tr ρ) (d : ρ) (qr : LQ ρ) (nr : Nat) (psr : List BS) : SpecT := fun args bk id =>
 let m := zck 0 args bk
 if args.length = na ∧ m.length = ps.length then match zam ps (m.map fun i => (bk i).re (zbl m)) with
  | some xs => match qa.P (AV.reL (zbl m) args ++ xs) with
   | some (a, []) => if zb4 bk id (psr.length - Lc) = true then
     some ⟨ρ, (T a).run, d, fun r => (tuple ((qr.e r).take nr)).re (zd2 m Lc id), fun r => zdp m Lc id (psr.length - Lc) (zz psr ((qr.e r).drop nr))⟩
    else none
   | _ => none
  | none => none
 else none
theorem zek {P : Program} {st : St} : ∀ {l : List ResultVar} {xs : List AV}, zef P st l = some xs → xs.length = l.length
 | [], xs, h => by
  simp only [zef, Option.some.injEq] at h
  subst h; rfl
 | r :: l, xs, h => by
  simp only [zef] at h
  split at h
  ·rename_i x xs' h1 h2
   simp only [Option.some.injEq] at h
   subst h
   simp [zek h2]
  ·cases h
theorem zmi (f : Nat → Option Nat) (l : List AV) : (tuple l).re f = tuple (AV.reL f l) := by
 cases l with
 | nil => rfl
 | cons x l => cases l <;> rfl
theorem zkh {l m : List AV} (h : NormL l m) : ziq (tuple l) (tuple m) := by
 obtain ⟨hl, hi⟩ := h
 match l, m, hl, hi with
 | [], [], _, _ => exact .refl
 | [x], [y], _, hi => exact hi 0 (by simp)
 | x :: x' :: l, y :: y' :: m, hl, hi => exact .tup hl hi
 | [], _ :: _, hl, _ => simp at hl
 | _ :: _, [], hl, _ => simp at hl
 | [_], _ :: _ :: _, hl, _ => simp at hl
 | _ :: _ :: _, [_], hl, _ => simp at hl
theorem zln : ∀ (bs : List (Nat × Blk)) (l : List Blk), (bs.map (·.1)).Nodup → ∀ j x, (j, x) ∈ bs → j < l.length → (upd l bs).getD j .dead = x
 | [], _, _, _, _, h, _ => by cases h
 | p :: bs, l, hnd, j, x, h, hj => by
  simp only [List.map_cons, List.nodup_cons] at hnd
  show (upd (l.set p.1 p.2) bs).getD j .dead = x
  rcases List.mem_cons.1 h with e | e
  ·rw [zfe bs _ (fun q hq e' => hnd.1 (by rw [← e] ; exact List.mem_map.2 ⟨q, hq, e'⟩))]
   rw [← e]
   exact zl hj
  ·exact zln bs _ hnd.2 j x e (by rw [List.length_set]; exact hj)
theorem zdl : ∀ {ps : List BS} {bs : List Blk} {xs : List AV}, zam ps bs = some xs → ∀ k, k < ps.length → (ps.getD k .gone = .gone) ∨ (bs.getD k .dead).live = true
 | [], _, _, _, k, hk => absurd hk (Nat.not_lt_zero k)
 | .cells T n :: ps, .cells T' cs :: bs, xs, h, k, hk => by
  simp only [zam] at h
  split at h
  ·split at h
   ·rename_i zs hz
    cases k with
    | zero => exact .inr rfl
    | succ k => exact zdl hz k (by simpa using hk)
   ·cases h
  ·cases h
 | .rows E :: ps, .rows E' s :: bs, xs, h, k, hk => by
  simp only [zam] at h
  split at h
  ·split at h
   ·rename_i zs hz
    cases k with
    | zero => exact .inr rfl
    | succ k => exact zdl hz k (by simpa using hk)
   ·cases h
  ·cases h
 | .gone :: ps, b :: bs, xs, h, k, hk => by
  simp only [zam] at h
  cases k with
  | zero => exact .inl rfl
  | succ k => exact zdl h k (by simpa using hk)
 | .cells _ _ :: _, [], _, h, _, _ => by simp [zam] at h
 | .rows _ :: _, [], _, h, _, _ => by simp [zam] at h
 | .gone :: _, [], _, h, _, _ => by simp [zam] at h
 | .cells _ _ :: _, .dead :: _, _, h, _, _ | .cells _ _ :: _, .free :: _, _, h, _, _ | .cells _ _ :: _, .rows _ _ :: _, _, h, _, _ | .cells _ _ :: _, .pub _ :: _, _, h, _, _ | .cells _ _ :: _, .bit _ _ :: _, _, h, _, _ => by simp [zam] at h
 | .rows _ :: _, .dead :: _, _, h, _, _ | .rows _ :: _, .free :: _, _, h, _, _ | .rows _ :: _, .cells _ _ :: _, _, h, _, _ | .rows _ :: _, .pub _ :: _, _, h, _, _ | .rows _ :: _, .bit _ _ :: _, _, h, _, _ => by simp [zam] at h
theorem zn4 {b b' : Blk} (h : BN b b') (hl : b'.live = true) : b.live = true := by
 cases h with
 | dead => cases hl
 | same => exact hl
 | cells => rfl
theorem zlo {α : Type} {l : List α} {i : Nat} {d : α} (h : l.getD i d ≠ d) : i < l.length := by
 rcases Nat.lt_or_ge i l.length with h1 | h1
 ·exact h1
 ·exact absurd (by rw [List.getD_eq_getElem?_getD, List.getElem?_eq_none h1]; rfl) h
theorem zn5 {blks : List Blk} {i : Nat} (h : (blks.getD i .dead).live = true) : i < blks.length := zlo (fun e => by rw [e] at h; cases h)
theorem zgx {C C' : Cx} {base j : Nat} {x : Blk} (f : Nat → Option Nat) (hcell : ∀ a v, ¬ C.L a.block → C.w.cell? a = some v → C'.w.cell? a = some v ∧ ¬ C'.L a.block)
  (hnu : ∀ i k u, f i = some k → C.nu i = some u → C'.nu k = some u) (hw : C'.w = C.w) {j' : Nat} (hj : C'.nu j' = C.nu j) (h : BlkOk C base j x) : BlkOk C' base j' (x.re f) := by
 cases x with
 | dead => trivial
 | free => exact hj.trans h
 | cells T cs =>
  obtain ⟨b, vs, e1, e2, e3⟩ := h
  exact ⟨b, vs, hj.trans e1, by rw [hw]; exact e2, e3.rename (fun x v => Rd.rename hcell hnu)⟩
 | rows E s =>
  obtain ⟨v, vs, e1, e2, e3, e4⟩ := h
  exact ⟨v, vs, hj.trans e1, by rw [hw]; exact e2, fun k c hk hc => (e3 k c hk hc).change (p := fun _ => true) hcell (fun i u hi => by cases hi) (zao _ s k c hc), e4⟩
 | pub s =>
  obtain ⟨v, e1, e2⟩ := h
  exact ⟨v, hj.trans e1, Rd.rename (x := .sl s) hcell hnu e2⟩
 | bit p q =>
  obtain ⟨b, e1, e2⟩ := h
  exact ⟨b, hj.trans e1, e2⟩
