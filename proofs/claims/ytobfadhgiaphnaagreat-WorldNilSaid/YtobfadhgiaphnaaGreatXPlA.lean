/-
  The plain lemmas.
-/
import Derived.Test.YtobfadhgiaphnaaGreatXAbClear
import Derived.Test.YtobfadhgiaphnaaGreatXAbFun
import Derived.Test.YtobfadhgiaphnaaGreatXAbInsert
import Derived.Test.YtobfadhgiaphnaaGreatXAbOpen
import Derived.Test.YtobfadhgiaphnaaGreatXAbPlain
import Derived.Test.YtobfadhgiaphnaaGreatXAbStructs
import Derived.Test.YtobfadhgiaphnaaGreatChecked
import Derived.Deep.QuietTactic
import Derived.Ground.GgsProg
import Derived.Ground.GgtProg
import Derived.Shelf.GgSortFunc.SmallK
import Derived.Shelf.GgSortMore.Stable
import Derived.Shelf.Lay
import Derived.Sort.LotA
import Derived.Sort.OwnSortedInts
import Derived.Test.YtobfadhgiaphnaaGreatXFCodec
import Derived.Test.YtobfadhgiaphnaaGreatXFLine
import Derived.Test.YtobfadhgiaphnaaGreatXFRefA
import Derived.Test.YtobfadhgiaphnaaGreatXFRefC
import Derived.Test.YtobfadhgiaphnaaGreatXFRefP
import Derived.Test.YtobfadhgiaphnaaGreatXFWld
import Derived.Test.YtobfadhgiaphnaaGreatXFWldLaw
import Derived.Test.YtobfadhgiaphnaaGreatXFacts
namespace Go.Proofs.YtobfadhgiaphnaaGreat.Ab
open Go Go.RowKit
set_option linter.unusedSimpArgs false
set_option linter.unusedVariables false
theorem zik {σ ρ τ : Type} {F : σ → Option (σ ⊕ ρ)} (n : Nat) (mk : Nat → τ → σ) (I : Nat → τ → Prop) (R : Nat → τ → ρ → Prop)
  (hend : ∀ t, I n t → ∃ r, F (mk n t) = some (.inr r) ∧ R n t r)
  (hstep : ∀ i t, i < n → I i t → (∃ t', F (mk i t) = some (.inl (mk (i + 1) t')) ∧ I (i + 1) t' ∧ ∀ r, R (i + 1) t' r → R i t r) ∨ ∃ r, F (mk i t) = some (.inr r) ∧ R i t r) :
  ∀ i t, i ≤ n → I i t → ∃ r, zev F (mk i t) = some r ∧ R i t r := by
 have key : ∀ k i t, n - i < k → i ≤ n → I i t → ∃ r, zev F (mk i t) = some r ∧ R i t r := by
  intro k
  induction k with
  | zero => intro i t h; omega
  | succ k ih =>
   intro i t hk hi hI
   rw [zhk]
   by_cases h : i < n
   ·rcases hstep i t h hI with ⟨t', h1, h2, h3⟩ | ⟨r, h1, h2⟩
    ·rw [h1]
     obtain ⟨r, k1, k2⟩ := ih (i + 1) t' (by omega) (by omega) h2
     exact ⟨r, k1, h3 r k2⟩
    ·rw [h1]; exact ⟨r, rfl, h2⟩
   ·obtain rfl : i = n := by omega
    obtain ⟨r, h1, h2⟩ := hend t hI
    rw [h1]; exact ⟨r, rfl, h2⟩
 exact fun i t => key _ i t (Nat.lt_succ_self _)
theorem zkp {σ ρ τ : Type} {F : σ → Option (σ ⊕ ρ)} (n : Nat) (mk : Nat → τ → σ) (I : Nat → τ → Prop) (g : Nat → τ → ρ)
  (hend : ∀ t, I n t → F (mk n t) = some (.inr (g n t)))
  (hstep : ∀ i t, i < n → I i t → (∃ t', F (mk i t) = some (.inl (mk (i + 1) t')) ∧ I (i + 1) t' ∧ g (i + 1) t' = g i t) ∨ F (mk i t) = some (.inr (g i t))) :
  ∀ i t, i ≤ n → I i t → zev F (mk i t) = some (g i t) := by
 intro i t hi hI
 obtain ⟨r, h1, h2⟩ := zik n mk I (fun i t r => r = g i t) (fun t h => ⟨_, hend t h, rfl⟩)
  (fun i t h hI => (hstep i t h hI).imp (fun ⟨t', h1, h2, h3⟩ => ⟨t', h1, h2, fun r hr => hr.trans h3⟩) (fun h => ⟨_, h, rfl⟩)) i t hi hI
 rw [h1, h2]
theorem zfh {σ α β γ : Type} {F : σ → Option (σ ⊕ (β ⊕ γ))} (l : List α) (d : α) (mk : Nat → σ) (p : α → Bool) (bad : β) (out : γ)
  (hend : F (mk l.length) = some (.inr (.inr out))) (hok : ∀ i, i < l.length → p (l.getD i d) = true → F (mk i) = some (.inl (mk (i + 1))))
  (hbad : ∀ i, i < l.length → p (l.getD i d) = false → F (mk i) = some (.inr (.inl bad))) : zev F (mk 0) = some (if l.all p = true then .inr out else .inl bad) := by
 have := zkp (F := F) l.length (fun i (_ : Unit) => mk i) (fun _ _ => True) (fun i _ => if (l.drop i).all p = true then .inr out else .inl bad) (by
   intro t _
   rw [hend, List.drop_length]; rfl) (by
   intro i t hi _
   have hs : l.drop i = l.getD i d :: l.drop (i + 1) := by
    rw [List.drop_eq_getElem_cons hi, List.getD_eq_getElem?_getD, List.getElem?_eq_getElem hi]; rfl
   cases hp : p (l.getD i d) with
   | true => exact .inl ⟨(), hok i hi hp, trivial, by rw [hs, List.all_cons, hp, Bool.true_and]⟩
   | false => exact .inr (by rw [hbad i hi hp, hs, List.all_cons, hp, Bool.false_and]; rfl)) 0 () (Nat.zero_le _) trivial
 rwa [List.drop_zero] at this
theorem zil {σ ρ : Type} {F : σ → Option (σ ⊕ ρ)} {s s' : σ} (h : F s = some (.inl s')) : zev F s = zev F s' := by rw [zhk, h]
theorem zly {σ ρ : Type} {F : σ → Option (σ ⊕ ρ)} {s : σ} {r : ρ} (h : F s = some (.inr r)) : zev F s = some r := by rw [zhk, h]
theorem ze1 {i : Nat} (h : i + 1 ≤ 9223372036854775807) : IntKind.i64.wrap ((i : Int) + 1) = ((i + 1 : Nat) : Int) := by
 rw [zkv (by omega) (by omega)]; omega
theorem zeu (l : List Power) : Sl.len (.powers l) = l.length := rfl
theorem zdt (l : List Packet) : Sl.len (.packets l) = l.length := rfl
theorem ze5 (l : List Ripe) : Sl.len (.ripes l) = l.length := rfl
theorem zim {α : Type} {l : List α} {k : Nat} (h : k < l.length) (d : α) : l.drop k = l.getD k d :: l.drop (k + 1) := by
 rw [List.drop_eq_getElem_cons h, List.getD_eq_getElem?_getD, List.getElem?_eq_getElem h]; rfl
theorem zj2 {α : Type} {l : List α} {k : Nat} (h : k < l.length) (d : α) : l.getD k d ∈ l := by
 rw [List.getD_eq_getElem?_getD, List.getElem?_eq_getElem h]; exact List.getElem_mem h
theorem zhw {l : List Int} (hl : l.length ≤ 9223372036854775807) : zp l l = some true := by
 have key : zbp l l l.length 0 = some (.inr ()) := by
  refine zjl (F := fun s : (List Int) × (List Int) × Int × Int => (z6 s.1 s.2.1 s.2.2.1 s.2.2.2).run)
   (fun s => s.1 = l ∧ s.2.1 = l ∧ s.2.2.1 = l.length ∧ 0 ≤ s.2.2.2 ∧ s.2.2.2 ≤ l.length) (fun s => l.length - s.2.2.2.toNat) (fun _ => .inr ()) ?_ (l, l, (l.length : Int), 0) ⟨rfl, rfl, rfl, by simp, by simp⟩
  rintro ⟨x0, x1, x2, x3⟩ ⟨h1, h2, h3, h4, h5⟩
  simp only at h1 h2 h3 h4 h5
  subst h2; subst h1; subst h3
  simp only [z6]
  by_cases hc : x3 < x0.length
  ·refine .inl ⟨_, by rw [Tr.rt (by simpa using hc), Tr.rg ⟨h4, hc⟩, Tr.rg ⟨h4, hc⟩, Tr.rf (by simp), Tr.rl], ⟨rfl, rfl, rfl, ?_, ?_⟩, ?_, trivial⟩
   all_goals (simp only []; rw [zkv (by omega) (by omega)]; omega)
  ·exact .inr (by rw [Tr.rf (by simpa using hc), Tr.rl])
 rw [zp, zap, Tr.rf (by simp), Tr.rj key, Tr.rl]
theorem zf1 {a b : List Power} (hl : a.length ≤ 9223372036854775807) : ∃ r, zf a b = some r ∧ (r = true ↔ a = b) := by
 rw [zf, zaw]
 by_cases h : a.length = b.length
 ·rw [Tr.rf (by simp; omega)]
  obtain ⟨r, h1, h2⟩ := zik (F := fun s : (List Power) × (List Power) × Int × Int => (z3 s.1 s.2.1 s.2.2.1 s.2.2.2).run) a.length
   (fun i (_ : Unit) => (a, b, (a.length : Int), (i : Int))) (fun i _ => True) (fun i _ r => match r with | .inl x => x = false ∧ a.drop i ≠ b.drop i | .inr _ => a.drop i = b.drop i) (by
    intro t _
    refine ⟨.inr (), ?_, ?_⟩
    ·simp only [z3]; rw [Tr.rf (by simp), Tr.rl]
    ·rw [List.drop_length, h, List.drop_length]) (by
    intro i t hi _
    have sa := zim (l := a) (k := i) hi default
    have sb := zim (l := b) (k := i) (by omega) default
    simp only [z3, Int.toNat_natCast]
    rw [Tr.rt (by simpa using hi), Tr.rg ⟨by omega, by rw [zeu]; omega⟩, Tr.rg ⟨by omega, by rw [zeu]; omega⟩, sa, sb]
    generalize a.getD i default = x
    generalize b.getD i default = y
    by_cases hxy : x = y
    ·subst hxy
     refine .inl ⟨(), ?_, trivial, ?_⟩
     ·rw [Tr.rf (by simp), Tr.rl, ze1 (by omega)]
     ·intro r hr; cases r <;> simpa using hr
    ·refine .inr ⟨.inl false, ?_, rfl, ?_⟩
     ·rw [Tr.rt (by cases x; cases y; simp only [Power.mk.injEq, not_and] at hxy; simp only [Bool.not_eq_true', Bool.and_true, Bool.and_eq_false_iff, beq_eq_false_iff_ne]; omega), Tr.rl]
     ·simp [hxy]) 0 () (by omega) trivial
  have h1 : zbv a b (a.length : Int) 0 = some r := h1
  cases r with
  | inl x => exact ⟨false, by rw [Tr.ri h1, Tr.rl, h2.1], by simpa using h2.2⟩
  | inr x => exact ⟨true, by rw [Tr.rj h1, Tr.rl], by simpa using h2⟩
 ·exact ⟨false, by rw [Tr.rt (by simp; omega), Tr.rl], by simp; intro e; rw [e] at h; exact h rfl⟩
def zqu : List Power → Int → Int
 | [], _ => 0
 | p :: l, v => if p.V = v then p.N else zqu l v
theorem zdh {l : List Power} (hl : l.length ≤ 9223372036854775807) : zf l l = some true := by
 obtain ⟨r, e1, e2⟩ := zf1 (a := l) (b := l) hl
 rw [e1, e2.2 rfl]
def zs3 (v x y : Int) : List Power := if x ≠ y then [⟨v, x⟩] else []
def zqv (f g : Nat → Int) : List Power := (List.range 6).foldl (fun t (v : Nat) => t ++ zs3 (v : Int) (g v) (f v)) []
def zok (l : zc2) : Prop := l.Said.length = l.Due.length ∧ l.Said.length ≤ 400 ∧ 0 ≤ l.Got ∧ l.Got ≤ l.Said.length ∧ l.Due.any (fun d => decide (d < 0)) = false
instance (l : zc2) : Decidable (zok l) := inferInstanceAs (Decidable (_ ∧ _))
theorem zj3 {l : zc2} (h1 : l.Said.length ≤ 9223372036854775807) (h2 : l.Due.length ≤ 9223372036854775807) : z8 l l = some true := by
 have key : zcg l.Said.length 0 l l = some (.inr (l, l)) := by
  refine zjl (F := fun s : Int × Int × zc2 × zc2 => (zar s.1 s.2.1 s.2.2.1 s.2.2.2).run)
   (fun s => s.1 = l.Said.length ∧ 0 ≤ s.2.1 ∧ s.2.1 ≤ l.Said.length ∧ s.2.2.1 = l ∧ s.2.2.2 = l) (fun s => l.Said.length - s.2.1.toNat) (fun _ => .inr (l, l)) ?_ ((l.Said.length : Int), 0, l, l) ⟨rfl, by simp, by simp, rfl, rfl⟩
  rintro ⟨x0, x1, x2, x3⟩ ⟨e1, e2, e3, e4, e5⟩
  simp only at e1 e2 e3 e4 e5
  subst e4; subst e5; subst e1
  simp only [zar]
  by_cases hc : x1 < x3.Said.length
  ·refine .inl ⟨_, by rw [Tr.rt (by simpa using hc), Tr.rg ⟨e2, hc⟩, Tr.rg ⟨e2, hc⟩, Tr.rf (by simp), Tr.rl], ⟨rfl, ?_, ?_, rfl, rfl⟩, ?_, trivial⟩
   all_goals (simp only []; rw [zkv (by omega) (by omega)]; omega)
  ·exact .inr (by rw [Tr.rf (by simpa using hc), Tr.rl])
 rw [z8, zbj, Tr.rf (by simp), Tr.rj key, Tr.rb (zhw h2), Tr.rl]
def zin (m : Int) : Int → List Power → Bool
 | _, [] => true
 | p, q :: l => decide (p < q.V) && decide (q.V ≤ 5) && decide (m ≤ q.N) && decide (q.N ≤ 1125899906842624) && zin m q.V l
def ze6 : Int → List Int → Bool
 | _, [] => true
 | p, q :: l => decide (p < q) && decide (q ≤ 5) && ze6 q l
def zss (p : Packet) : Int :=
 if p.Kind < 1 ∨ 4 < p.Kind then 3
 else if (p.Id < 1 ∨ 1099511627776 < p.Id) ∨ (3 ≤ p.Kind ∧ (p.V < 0 ∨ 5 < p.V ∨ p.N < 1 ∨ 1125899906842624 < p.N)) then 2
 else if (p.Kind ≤ 2 ∧ (p.V ≠ 0 ∨ p.N ≠ 0)) ∨ (p.Kind ≠ 1 ∧ (0 < p.Set.length ∨ 0 < p.Done.length)) then 1
 else if zin 0 (-1) p.Set = false then 2
 else if ze6 (-1) p.Done = false then 2
 else 0
theorem zf2 {p : Packet} (h1 : p.Set.length ≤ 9223372036854775807) (h2 : p.Done.length ≤ 9223372036854775807) : z2 p p = some true := by
 obtain ⟨r, e1, e2⟩ := zf1 (a := p.Set) (b := p.Set) h1
 obtain rfl : r = true := e2.2 rfl
 rw [z2, zay]
 simp only [e1, zhw h2, Option.isSome_some, Option.getD_some]
 rw [Tr.rg (by simp), Tr.rg (by simp), Tr.rl]
 simp
set_option maxRecDepth 100000
structure Dig (y1 y0 u d t q r : Nat) : Prop where
 hy1 : 2147483648 ≤ y1
 hy1' : y1 < 4294967296
 hy0 : y0 < 4294967296
 hd : d < 4294967296
 hu : u < y1 * 4294967296 + y0
 t1 : t * (y1 * 4294967296 + y0) ≤ u * 4294967296 + d
 t2 : u * 4294967296 + d < (t + 1) * (y1 * 4294967296 + y0)
 qr : q * y1 + r = u
 hr : r < 4294967296
 hq : t ≤ q
 hq' : q ≤ 4294967297
theorem Dig.done {y1 y0 u d t q r : Nat} (h1 : t * (y1 * 4294967296 + y0) ≤ u * 4294967296 + d) (h2 : u * 4294967296 + d < (t + 1) * (y1 * 4294967296 + y0)) (hqr : q * y1 + r = u) (hq : t ≤ q)
  (hc : q * y0 ≤ r * 4294967296 + d) : q = t := by
 have e : q * (y1 * 4294967296 + y0) ≤ u * 4294967296 + d := by
  rw [Nat.mul_add, ← Nat.mul_assoc]; omega
 refine Classical.byContradiction fun hn => ?_
 have := Nat.mul_le_mul_right (y1 * 4294967296 + y0) (show t + 1 ≤ q by omega)
 omega
theorem Dig.next {y1 y0 u d t q r : Nat} (h : Dig y1 y0 u d t q r) (hlt : t < q) (hr : r + y1 < 4294967296) : Dig y1 y0 u d t (q - 1) (r + y1) := by
 obtain ⟨p, rfl⟩ : ∃ p, q = p + 1 := ⟨q - 1, by omega⟩
 have h3 := h.qr; have h5 := h.hq'
 rw [Nat.succ_mul] at h3
 exact ⟨h.hy1, h.hy1', h.hy0, h.hd, h.hu, h.t1, h.t2, by rw [Nat.add_sub_cancel]; omega, hr, by omega, by omega⟩
def zs4 (b : Bank) : Int := b.Free.x0 + b.Free.x1 + b.Free.x2 + b.Free.x3 + b.Bonded + b.Waiting + b.Burnt
def okN (x : Int) : Prop := 0 ≤ x ∧ x ≤ 400000
instance (x : Int) : Decidable (okN x) := inferInstanceAs (Decidable (_ ∧ _))
def zqw (b : Bank) : Prop := okN b.Free.x0 ∧ okN b.Free.x1 ∧ okN b.Free.x2 ∧ okN b.Free.x3 ∧ okN b.Bonded ∧ okN b.Waiting ∧ okN b.Burnt ∧ zs4 b = 400000
instance (b : Bank) : Decidable (zqw b) := inferInstanceAs (Decidable (_ ∧ _))
def zs5 : Bank := ⟨⟨100000, 100000, 100000, 100000⟩, 0, 0, 0⟩
theorem ze7 (l : List Wait) : Sl.len (.waits l) = l.length := rfl
abbrev inA (n : Int) : Prop := 0 ≤ n ∧ n ≤ 1125899906842624
abbrev shr (s : Stake) (d v : Int) : Int := A46.get s.Shares d v
def zst (s : Stake) (v : Int) : Int := shr s 0 v + shr s 1 v + shr s 2 v + shr s 3 v
def okV (T S L : Int) (J D : Bool) : Prop := inA T ∧ inA S ∧ inA L ∧ ¬ (S = 0 ∧ 0 < T) ∧ ¬ (D = true ∧ J = false)
instance (T S L : Int) (J D : Bool) : Decidable (okV T S L J D) := inferInstanceAs (Decidable (_ ∧ _))
def zol (s : Stake) (v : Int) : Prop :=
 okV (s.Validators.Tokens.get v) (s.Validators.Shares.get v) (s.Validators.Lost.get v) (s.Validators.Jailed.get v) (s.Validators.Dead.get v) ∧ (∀ d : Nat, d < 4 → inA (shr s d v)) ∧ zst s v = s.Validators.Shares.get v
instance (s : Stake) (v : Int) : Decidable (zol s v) := inferInstanceAs (Decidable (_ ∧ _))
def zom (next last : Int) (w : Wait) : Prop := last < w.Number ∧ w.Number < next ∧ 0 ≤ w.D ∧ w.D < 4 ∧ 0 ≤ w.V ∧ w.V < 6 ∧ inA w.Amount ∧ 0 ≤ w.Height ∧ 0 ≤ w.Due
instance (n l : Int) (w : Wait) : Decidable (zom n l w) := inferInstanceAs (Decidable (_ ∧ _))
def zj4 (next : Int) : Int → List Wait → Prop
 | _, [] => True
 | last, w :: l => zom next last w ∧ zj4 next w.Number l
def zqx (next : Int) : (last : Int) → (l : List Wait) → Decidable (zj4 next last l)
 | _, [] => isTrue trivial
 | last, w :: l => @instDecidableAnd _ _ (inferInstanceAs (Decidable (zom next last w))) (zqx next w.Number l)
instance (n p : Int) (l : List Wait) : Decidable (zj4 n p l) := zqx n p l
def zsz : List Wait → Int
 | [] => 0
 | w :: l => w.Amount + zsz l
def zs0 (a : A6 Int) : Int := a.x0 + a.x1 + a.x2 + a.x3 + a.x4 + a.x5
def GoodS (s : Stake) : Prop := zqw s.Bank ∧ (1 ≤ s.Next ∧ s.Next ≤ 1125899906842624 ∧ s.Waits.length ≤ 60) ∧ (∀ v : Nat, v < 6 → zol s v) ∧ zj4 s.Next 0 s.Waits ∧
 zs0 s.Validators.Tokens = s.Bank.Bonded ∧ zsz s.Waits = s.Bank.Waiting ∧ zs0 s.Validators.Lost = s.Bank.Burnt
instance (s : Stake) : Decidable (GoodS s) := inferInstanceAs (Decidable (_ ∧ _))
theorem GoodS.at {s : Stake} (h : GoodS s) {v : Int} (hv : 0 ≤ v ∧ v < 6) : zol s v := by
 have := h.2.2.1 v.toNat (by omega)
 rwa [show ((v.toNat : Nat) : Int) = v by omega] at this
theorem GoodS.shr {s : Stake} (h : GoodS s) {d v : Int} (hd : 0 ≤ d ∧ d < 4) (hv : 0 ≤ v ∧ v < 6) : 0 ≤ A46.get s.Shares d v ∧ A46.get s.Shares d v ≤ 1125899906842624 := by
 have := (h.at hv).2.1 d.toNat (by omega)
 rwa [show ((d.toNat : Nat) : Int) = d by omega] at this
theorem zm6 {s : Stake} (h : s.Waits.length ≤ 9223372036854775807) : zaa s s = some true := by
 have key : za0 s.Waits.length 0 s s = some (.inr ()) := by
  rw [za0]
  refine (zfh (F := fun s : Int × Int × Stake × Stake => (z5 s.1 s.2.1 s.2.2.1 s.2.2.2).run) s.Waits default (fun i => ((s.Waits.length : Int), (i : Int), s, s)) (fun _ => true) false () ?_ ?_ ?_).trans ?_
  ·simp only [z5]; rw [Tr.rf (by simp), Tr.rl]
  ·intro i hi _
   simp only [z5]
   rw [Int.toNat_natCast, Tr.rt (by simpa using hi), Tr.rg ⟨by omega, by rw [ze7]; omega⟩, Tr.rg ⟨by omega, by rw [ze7]; omega⟩, Tr.rf (by simp), Tr.rl, ze1 (by omega)]
  ·intro i hi hp; cases hp
  ·rw [if_pos (by simp)]
 rw [zaa, zba, Tr.rf (by simp), Tr.rj key, Tr.rl]
def zqy : Validators := ⟨⟨0, 0, 0, 0, 0, 0⟩, ⟨0, 0, 0, 0, 0, 0⟩, ⟨0, 0, 0, 0, 0, 0⟩, ⟨false, false, false, false, false, false⟩, ⟨false, false, false, false, false, false⟩⟩
def zs6 : Stake := ⟨zs5, zqy, ⟨⟨0, 0, 0, 0, 0, 0⟩, ⟨0, 0, 0, 0, 0, 0⟩, ⟨0, 0, 0, 0, 0, 0⟩, ⟨0, 0, 0, 0, 0, 0⟩⟩, [], 1⟩
def fP (a : List Power) (v : Nat) : Int := zqu a v
def Kept (s t : Stake) (e : Int) : Prop :=
 GoodS t ∧ (e ≠ 0 → t = s) ∧ s.Bank.Burnt ≤ t.Bank.Burnt ∧ ∀ v : Int, 0 ≤ v → v < 6 → (s.Validators.Dead.get v = true → t.Validators.Dead.get v = true) ∧ s.Validators.Lost.get v ≤ t.Validators.Lost.get v
theorem Kept.same {s : Stake} (hg : GoodS s) (e : Int) : Kept s s e := ⟨hg, fun _ => rfl, Int.le_refl _, fun _ _ _ => ⟨id, Int.le_refl _⟩⟩
def zsu (c : ze) : Prop := (c.On && c.Gone) = false ∧ 0 ≤ c.Height ∧ c.Height < 1099511627776 ∧ 0 ≤ c.Time ∧ c.Time ≤ 1099511627776 ∧ 0 ≤ c.Id ∧ c.Id ≤ 1099511627776
instance (c : ze) : Decidable (zsu c) := inferInstanceAs (Decidable (_ ∧ _))
structure FitC (R : Nat) (c : ze) : Prop where
 set : c.Set.length * 16 ≤ R
 pend : c.Pending.length * 80 ≤ R
 ripes : c.Ripes.length * 16 ≤ R
 said : c.Out.Said.length * 16 ≤ R
 due : c.Out.Due.length * 8 ≤ R
 ps : ∀ p, p ∈ c.Pending → p.Set.length * 16 ≤ R ∧ p.Done.length * 8 ≤ R
theorem FitC.mono {R S : Nat} {c : ze} (h : FitC R c) (hr : R ≤ S) : FitC S c :=
 ⟨Nat.le_trans h.set hr, Nat.le_trans h.pend hr, Nat.le_trans h.ripes hr, Nat.le_trans h.said hr, Nat.le_trans h.due hr, fun p hp => ⟨Nat.le_trans (h.ps p hp).1 hr, Nat.le_trans (h.ps p hp).2 hr⟩⟩
structure znv (c : ze) : Prop where
 set : c.Set.length ≤ 9223372036854775807
 pend : c.Pending.length ≤ 9223372036854775807
 ripes : c.Ripes.length ≤ 9223372036854775807
 said : c.Out.Said.length ≤ 9223372036854775807
 due : c.Out.Due.length ≤ 9223372036854775807
 ps : ∀ p, p ∈ c.Pending → p.Set.length ≤ 9223372036854775807 ∧ p.Done.length ≤ 9223372036854775807
theorem zm7 {c : ze} (h : znv c) : z4 c c = some true := by
 have e1 := h.set; have e2 := h.pend; have e3 := h.ripes
 have k1 : zac c.Pending.length 0 c c = some (.inr (c, c)) := by
  rw [zac]
  refine (zfh (F := fun s : Int × Int × ze × ze => (zw s.1 s.2.1 s.2.2.1 s.2.2.2).run) c.Pending default (fun i => ((c.Pending.length : Int), (i : Int), c, c)) (fun _ => true) false (c, c) ?_ ?_ ?_).trans ?_
  ·simp only [zw]; rw [Tr.rf (by simp), Tr.rl]
  ·intro i hi _
   obtain ⟨p1, p2⟩ := h.ps _ (zj2 (l := c.Pending) (k := i) hi default)
   simp only [zw, Int.toNat_natCast, zf2 p1 p2, Option.isSome_some, Option.getD_some]
   rw [Tr.rt (by simpa using hi), Tr.rg ⟨by omega, by rw [zdt]; omega⟩, Tr.rg ⟨by omega, by rw [zdt]; omega⟩, Tr.rg (by trivial), Tr.rf (by rfl), Tr.rl, ze1 (by omega)]
  ·intro i hi hp; cases hp
  ·rw [if_pos (by simp)]
 have k2 : zad c.Ripes.length 0 c c = some (.inr ()) := by
  rw [zad]
  refine (zfh (F := fun s : Int × Int × ze × ze => (zx s.1 s.2.1 s.2.2.1 s.2.2.2).run) c.Ripes default (fun i => ((c.Ripes.length : Int), (i : Int), c, c)) (fun _ => true) false () ?_ ?_ ?_).trans ?_
  ·simp only [zx]; rw [Tr.rf (by simp), Tr.rl]
  ·intro i hi _
   simp only [zx, Int.toNat_natCast]
   rw [Tr.rt (by simpa using hi), Tr.rg ⟨by omega, by rw [ze5]; omega⟩, Tr.rg ⟨by omega, by rw [ze5]; omega⟩, Tr.rf (by simp), Tr.rl, ze1 (by omega)]
  ·intro i hi hp; cases hp
  ·rw [if_pos (by simp)]
 rw [z4, zah]
 simp only [zdh e1, zj3 h.said h.due, Option.isSome_some, Option.getD_some]
 rw [Tr.rg (by simp), Tr.rg (by simp), Tr.rf (by simp), Tr.rj k1]
 simp only []
 rw [Tr.rj k2, Tr.rl]
abbrev zlz (L : Links) (c : Int) : zc2 := ⟨L.Said.get c, L.Due.get c, L.Got.get c, L.Closed.get c⟩
def zq9 (p : za) (c : Int) : Bool := !(p.Links.On.get c && p.Links.Gone.get c) && decide (0 ≤ p.Links.Base.get c) && decide (p.Links.Base.get c ≤ p.Height) && zin 1 (-1) (p.Links.Told.get c) && decide (zok (zlz p.Links c)) && ze6 (-1) (p.Links.Done.get c)
def zsv (p : za) (a : Asked) : Bool := decide (0 ≤ a.C) && decide (a.C < 2) && p.Links.On.get a.C && (zss a.P == 0) && !(a.P.Kind == 1)
def zqz (p : za) : Prop := 0 ≤ p.Height ∧ p.Height < 1099511627776 ∧ 0 ≤ p.Time ∧ p.Time ≤ 1099511627776
instance (p : za) : Decidable (zqz p) := inferInstanceAs (Decidable (_ ∧ _))
structure FitPr (R : Nat) (p : za) : Prop where
 waits : p.Stake.Waits.length * 64 ≤ R
 set : p.Set.length * 16 ≤ R
 told : ∀ c, (p.Links.Told.get c).length * 16 ≤ R
 done : ∀ c, (p.Links.Done.get c).length * 8 ≤ R
 said : ∀ c, (p.Links.Said.get c).length * 16 ≤ R
 due : ∀ c, (p.Links.Due.get c).length * 8 ≤ R
 queue : p.Queue.length * 88 ≤ R
 ps : ∀ a, a ∈ p.Queue → a.P.Set.length * 16 ≤ R ∧ a.P.Done.length * 8 ≤ R
theorem FitPr.mono {R S : Nat} {p : za} (h : FitPr R p) (hr : R ≤ S) : FitPr S p :=
 ⟨Nat.le_trans h.waits hr, Nat.le_trans h.set hr, fun c => Nat.le_trans (h.told c) hr, fun c => Nat.le_trans (h.done c) hr, fun c => Nat.le_trans (h.said c) hr, fun c => Nat.le_trans (h.due c) hr, Nat.le_trans h.queue hr,
  fun a ha => ⟨Nat.le_trans (h.ps a ha).1 hr, Nat.le_trans (h.ps a ha).2 hr⟩⟩
structure zq0 (p : za) : Prop where
 waits : p.Stake.Waits.length ≤ 9223372036854775807
 set : p.Set.length ≤ 9223372036854775807
 told : ∀ c, (p.Links.Told.get c).length ≤ 9223372036854775807
 done : ∀ c, (p.Links.Done.get c).length ≤ 9223372036854775807
 said : ∀ c, (p.Links.Said.get c).length ≤ 9223372036854775807
 due : ∀ c, (p.Links.Due.get c).length ≤ 9223372036854775807
 queue : p.Queue.length ≤ 9223372036854775807
 ps : ∀ a, a ∈ p.Queue → a.P.Set.length ≤ 9223372036854775807 ∧ a.P.Done.length ≤ 9223372036854775807
theorem FitPr.len {R : Nat} {p : za} (h : FitPr R p) (hR : R ≤ 9223372036854775807) : zq0 p :=
 ⟨by have := h.waits; omega, by have := h.set; omega, fun c => by have := h.told c; omega, fun c => by have := h.done c; omega, fun c => by have := h.said c; omega, fun c => by have := h.due c; omega, by have := h.queue; omega,
  fun a ha => by have := h.ps a ha; omega⟩
theorem zl0 {p : za} (hf : zq0 p) : zq p p = some true := by
 have hS := zm6 hf.waits
 have hP := zdh hf.set
 have turn : ∀ (c : Nat), c < 2 → (zr (c : Int) p p).run = some (.inl (((c + 1 : Nat) : Int), p, p)) := by
  intro c hc
  have h1 := zdh (hf.told c)
  have h2 := zhw (hf.done c)
  have h3 := zj3 (l := zlz p.Links c) (hf.said c) (hf.due c)
  simp only [zr]
  rw [Tr.rt (by simp; omega), Tr.rg ⟨by omega, by omega⟩, Tr.rg ⟨by omega, by omega⟩, Tr.rg (fun _ => ⟨by rw [h1]; rfl, trivial⟩), Tr.rg (fun _ => ⟨by rw [h2]; rfl, trivial⟩), Tr.rg (fun _ => ⟨by rw [h3]; rfl, trivial⟩), h1, h2, h3,
   Tr.rf (by simp), Tr.rl, ze1 (by omega)]
 have loop : zae 0 p p = some (.inr (p, p)) := by
  rw [zae, zil (s' := (((1 : Nat) : Int), p, p)) (turn 0 (by omega)), zil (s' := (((2 : Nat) : Int), p, p)) (turn 1 (by omega)), zly (by
   show (zr 2 p p).run = _
   simp only [zr]
   rw [Tr.rf (by simp), Tr.rl])]
 have queue : zaf p.Queue.length 0 p p = some (.inr ()) := by
  rw [zaf]
  have hq := hf.queue
  have := zfh (F := fun s : Int × Int × za × za => (zy s.1 s.2.1 s.2.2.1 s.2.2.2).run) p.Queue default (fun i => ((p.Queue.length : Int), (i : Int), p, p)) (fun _ => true) false () (by
    simp only [zy]; rw [Tr.rf (by simp), Tr.rl]) (by
    intro i hi h
    obtain ⟨p1, p2⟩ := hf.ps _ (zj2 (l := p.Queue) (k := i) hi default)
    have hb : (0 : Int) ≤ (i : Int) ∧ (i : Int) < ((Sl.len (.asked p.Queue) : Nat) : Int) := ⟨by omega, by show (i : Int) < (p.Queue.length : Nat); omega⟩
    have hsp := zf2 p1 p2
    simp only [zy, Int.toNat_natCast]
    rw [Tr.rt (by simpa using hi), Tr.rg hb, Tr.rg hb, Tr.rg (fun _ => ⟨hb, trivial⟩), Tr.rg (fun _ => ⟨hb, trivial⟩), Tr.rg (fun _ => ⟨by rw [hsp]; rfl, trivial⟩), hsp, Tr.rf (by simp), Tr.rl, ze1 (by omega)]) (by
    intro i hi h
    cases h)
  rw [if_pos (by simp)] at this
  exact this
 rw [zq, zai, Tr.rg (fun _ => ⟨by rw [hS]; rfl, trivial⟩), Tr.rg (fun _ => ⟨by rw [hP]; rfl, trivial⟩), hS, hP, Tr.rf (by simp), Tr.rj loop]
 simp only []
 rw [Tr.rj queue, Tr.rl]
def zs7 (x t : Int) : Meter := ⟨if x < 5 then 1 else x / 5, IntKind.i64.wrap (t + 10)⟩
def zsw : za := ⟨0, 0, zs6, [], default, zs7 0 0, []⟩
def upP (p : za) (S : Stake) (D : A2 (List Int)) (M : Meter) : za := { p with Stake := S, Links := { p.Links with Done := D }, Meter := M }
def DealI (p0 p : za) : Prop := ∃ S D M, p = upP p0 S D M ∧ GoodS S ∧ ze6 (-1) D.x0 = true ∧ ze6 (-1) D.x1 = true
theorem DealI.get {p0 p : za} (h : DealI p0 p) {c : Int} : ze6 (-1) (p.Links.Done.get c) = true := by
 obtain ⟨S, D, M, rfl, _, h0, h1⟩ := h
 show ze6 (-1) (D.get c) = true
 unfold A2.get; split <;> assumption
def dOf (p : za) (c : Int) : List Power := zqv (fP (p.Links.Told.get c)) (fP p.Set)
def zq1 (p : za) (c : Int) : Prop := p.Links.On.get c = false ∨ (dOf p c = [] ∧ p.Links.Done.get c = [] ∧ p.Links.Fresh.get c = false)
instance (p : za) (c : Int) : Decidable (zq1 p c) := by
 have : Decidable (dOf p c = []) := decidable_of_iff ((dOf p c).length = 0) List.length_eq_zero_iff
 have : Decidable (p.Links.Done.get c = []) := decidable_of_iff ((p.Links.Done.get c).length = 0) List.length_eq_zero_iff
 exact inferInstanceAs (Decidable (_ ∨ _))
theorem zq2 (c : Int) : (default : Links).Told.get c = [] ∧ (default : Links).Done.get c = [] ∧ (default : Links).Said.get c = [] ∧ (default : Links).Due.get c = [] := by
 unfold A2.get
 by_cases h : c = 0
 ·rw [if_pos h, if_pos h, if_pos h, if_pos h]; exact ⟨rfl, rfl, rfl, rfl⟩
 ·rw [if_neg h, if_neg h, if_neg h, if_neg h]; exact ⟨rfl, rfl, rfl, rfl⟩
def GoodX (p : za) : Prop := GoodS p.Stake ∧ (0 ≤ p.Height ∧ 0 ≤ p.Time ∧ p.Time ≤ 1099511627776) ∧ zin 1 (-1) p.Set = true ∧ zq9 p 0 = true ∧ zq9 p 1 = true ∧ p.Queue.all (zsv p) = true
structure LkX (p : za) (c : Int) : Prop where
 on : ¬ (p.Links.On.get c = true ∧ p.Links.Gone.get c = true)
 b0 : 0 ≤ p.Links.Base.get c
 b1 : p.Links.Base.get c ≤ p.Height
 told : zin 1 (-1) (p.Links.Told.get c) = true
 line : zok (zlz p.Links c)
 done : ze6 (-1) (p.Links.Done.get c) = true
theorem okLk_iff {p : za} {c : Int} : zq9 p c = true ↔ LkX p c := by
 unfold zq9
 simp only [Bool.and_eq_true, decide_eq_true_eq]
 constructor
 ·rintro ⟨⟨⟨⟨⟨h1, h2⟩, h3⟩, h4⟩, h5⟩, h6⟩
  exact ⟨fun ⟨x, y⟩ => (by rw [x, y] at h1; cases h1), h2, h3, h4, h5, h6⟩
 ·rintro ⟨h1, h2, h3, h4, h5, h6⟩
  refine ⟨⟨⟨⟨⟨?_, h2⟩, h3⟩, h4⟩, h5⟩, h6⟩
  cases x : p.Links.On.get c
  ·rfl
  ·cases y : p.Links.Gone.get c
   ·rfl
   ·exact absurd ⟨x, y⟩ h1
theorem GoodX.lk {p : za} (h : GoodX p) {c : Int} (hc : 0 ≤ c ∧ c < 2) : LkX p c := by
 rcases (show c = 0 ∨ c = 1 by omega) with rfl | rfl
 ·exact okLk_iff.1 h.2.2.2.1
 ·exact okLk_iff.1 h.2.2.2.2.1
structure SameL (p q : za) (i : Int) : Prop where
 on : p.Links.On.get i = q.Links.On.get i
 gone : p.Links.Gone.get i = q.Links.Gone.get i
 said : (znl p.Links i).Out.Said = (znl q.Links i).Out.Said
theorem SameL.refl (p : za) (i : Int) : SameL p p i := ⟨rfl, rfl, rfl⟩
def zs8 : Stake := ⟨⟨⟨99300, 100000, 100000, 100000⟩, 700, 0, 0⟩, { zqy with Tokens := ⟨700, 0, 0, 0, 0, 0⟩, Shares := ⟨700, 0, 0, 0, 0, 0⟩ }, ⟨⟨700, 0, 0, 0, 0, 0⟩, ⟨0, 0, 0, 0, 0, 0⟩, ⟨0, 0, 0, 0, 0, 0⟩, ⟨0, 0, 0, 0, 0, 0⟩⟩, [], 1⟩
def p7 : za := { zsw with Stake := zs8 }
def w1 : Wld := ⟨0, p7, default, default, 1⟩
def w2 : Wld := ⟨5, p7, default, default, 2⟩
structure Alike (w w' : Wld) : Prop where
 p : w'.p = w.p
 c : w'.consumers = w.consumers
 t : w'.clock = w.clock
theorem Alike.refl (w : Wld) : Alike w w := ⟨rfl, rfl, rfl⟩
theorem zq3 : znv (default : ze) := by constructor <;> first | exact Nat.zero_le _ | (intro p hp; cases hp)
theorem zjg (d : Deed) (i : Int) : zbc d i = some true := by
 have e1 : zaj d = some ⟨4, 0⟩ := by rw [zaj, z7, Tr.rl]
 have e2 : zi = some 0 := by rw [zi, z0, Tr.rl]
 have e3 : zh = some default := by rw [zh, zu, Tr.rl]
 have e4 : zo i = some default := by rw [zo, zv, Tr.rl]
 have e5 : zq default default = some true := zl0 (by
  have z : ∀ c : Int, (default : za).Links.Told.get c = [] ∧ (default : za).Links.Done.get c = [] ∧ (default : za).Links.Said.get c = [] ∧ (default : za).Links.Due.get c = [] := zq2
  exact ⟨Nat.zero_le _, Nat.zero_le _, fun c => by rw [(z c).1]; exact Nat.zero_le _, fun c => by rw [(z c).2.1]; exact Nat.zero_le _, fun c => by rw [(z c).2.2.1]; exact Nat.zero_le _, fun c => by rw [(z c).2.2.2]; exact Nat.zero_le _, Nat.zero_le _, fun a ha => by cases ha⟩)
 have e6 : z4 default default = some true := zm7 zq3
 rw [zbc, zbk, Tr.rb e1]
 simp only [e2, e3, e4, e5, e6, Option.getD_some]
 rw [Tr.rg (fun _ => ⟨rfl, trivial⟩), Tr.rg (fun _ => ⟨rfl, trivial⟩), Tr.rg (fun _ => ⟨rfl, trivial⟩), Tr.rg (fun _ => ⟨rfl, trivial⟩), Tr.rg (fun _ => ⟨rfl, trivial⟩), Tr.rl]
 rfl
