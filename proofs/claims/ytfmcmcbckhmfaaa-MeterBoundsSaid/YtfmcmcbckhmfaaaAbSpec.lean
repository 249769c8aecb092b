/-
  Specifications of functions: the arguments read as plain data, the answer said as plain data.
-/
import Derived.Test.YtfmcmcbckhmfaaaAbCode
namespace Go.Proofs.Ytfmcmcbckhmfaaa.Ab
open Go Go.RowKit

/-- The second says less, or says 'nil' as 'an empty list'. -/
inductive Norm : AV → AV → Prop where
  | refl {x : AV} : Norm x x
  | nil {s : Sl} (h : s.len = 0) : Norm (.val (.slice none 0 0)) (.sl s)
  | agg {cs ds : List AV} (hl : cs.length = ds.length) (h : ∀ i, i < cs.length → Norm (cs.getD i .any) (ds.getD i .any)) : Norm (.agg cs) (.agg ds)

theorem Rd.norm {C : Cx} {x y : AV} (h : Norm x y) {v : Value} (hr : Rd C x v) : Rd C y v := by
  induction h generalizing v with
  | refl => exact hr
  | nil h => cases hr; exact .slnil h
  | @agg cs ds hl _ ih =>
    cases hr with
    | @agg _ vs hvl hh => exact .agg (hvl.trans hl) (fun i hi => ih i (by omega) (hh i (by omega)))

def NormL (l m : List AV) : Prop := l.length = m.length ∧ ∀ i, i < l.length → Norm (l.getD i .any) (m.getD i .any)

theorem NormL.nil : NormL [] [] := ⟨rfl, fun i hi => absurd hi (Nat.not_lt_zero i)⟩

theorem NormL.cons {x y : AV} {l m : List AV} (h : Norm x y) (k : NormL l m) : NormL (x :: l) (y :: m) := by
  refine ⟨by simp [k.1], fun i hi => ?_⟩
  cases i with
  | zero => exact h
  | succ i => exact k.2 i (by simpa using hi)

theorem NormL.append : ∀ {l l' m m' : List AV}, NormL l m → NormL l' m' → NormL (l ++ l') (m ++ m')
  | [], l', m, m', h, k => by
    have : m = [] := List.eq_nil_of_length_eq_zero h.1.symm
    subst this; exact k
  | x :: l, l', m, m', h, k => by
    cases m with
    | nil => have := h.1; simp at this
    | cons y m =>
      refine NormL.cons (h.2 0 (by simp)) (NormL.append ⟨by have := h.1; simpa using this, fun i hi => ?_⟩ k)
      have := h.2 (i + 1) (by simpa using hi)
      simpa using this

theorem Rds.norm {C : Cx} {l m : List AV} (h : NormL l m) {vs : List Value} (hr : Rds C l vs) : Rds C m vs :=
  ⟨hr.1.trans h.1, fun i hi => (hr.2 i (by rw [h.1]; exact hi)).norm (h.2 i (by rw [h.1]; exact hi))⟩

/-- A way to read one value as data. -/
structure Par (α : Type) where
  A : AV → Option α
  e : α → AV
  norm : ∀ x a, A x = some a → Norm x (e a)
  cl : ∀ a, closed (e a) = true

/-- A way to read a row of cells as data. -/
structure LP (α : Type) where
  P : List AV → Option (α × List AV)
  e : α → List AV
  ok : ∀ l a r, P l = some (a, r) → ∃ l1, l = l1 ++ r ∧ NormL l1 (e a)
  cl : ∀ a, AV.clearL (fun _ => true) (e a) = true

theorem clearL_append {p : Nat → Bool} : ∀ {l m : List AV}, AV.clearL p l = true → AV.clearL p m = true → AV.clearL p (l ++ m) = true
  | [], _, _, h => h
  | x :: l, m, h, k => by
    simp only [AV.clearL, Bool.and_eq_true] at h
    simp only [List.cons_append, AV.clearL, Bool.and_eq_true]
    exact ⟨h.1, clearL_append h.2 k⟩

def LP.one {α : Type} (p : Par α) : LP α where
  P l := match l with
    | x :: r => match p.A x with
      | some a => some (a, r)
      | none => none
    | [] => none
  e a := [p.e a]
  ok l a r h := by
    split at h
    · rename_i x r'
      split at h
      · rename_i b hb
        simp only [Option.some.injEq, Prod.mk.injEq] at h
        obtain ⟨rfl, rfl⟩ := h
        exact ⟨[x], rfl, .cons (p.norm _ _ hb) .nil⟩
      · cases h
    · cases h
  cl a := by
    simp only [AV.clearL, Bool.and_true]
    exact p.cl a

def LP.seq {α β : Type} (p : LP α) (q : LP β) : LP (α × β) where
  P l := match p.P l with
    | some (a, r) => match q.P r with
      | some (b, r') => some ((a, b), r')
      | none => none
    | none => none
  e ab := p.e ab.1 ++ q.e ab.2
  ok l ab r h := by
    split at h
    · rename_i a r1 h1
      split at h
      · rename_i b r2 h2
        simp only [Option.some.injEq, Prod.mk.injEq] at h
        obtain ⟨rfl, rfl⟩ := h
        obtain ⟨l1, rfl, n1⟩ := p.ok _ _ _ h1
        obtain ⟨l2, rfl, n2⟩ := q.ok _ _ _ h2
        exact ⟨l1 ++ l2, (List.append_assoc _ _ _).symm, n1.append n2⟩
      · cases h
    · cases h
  cl ab := clearL_append (p.cl _) (q.cl _)

def LP.map {α β : Type} (p : LP α) (f : α → β) (g : β → α) (hfg : ∀ a, g (f a) = a) : LP β where
  P l := match p.P l with
    | some (a, r) => some (f a, r)
    | none => none
  e b := p.e (g b)
  ok l b r h := by
    split at h
    · rename_i a r1 h1
      simp only [Option.some.injEq, Prod.mk.injEq] at h
      obtain ⟨rfl, rfl⟩ := h
      rw [hfg]
      exact p.ok _ _ _ h1
    · cases h
  cl b := p.cl _

def Par.ofLP {α : Type} (p : LP α) : Par α where
  A x := match x with
    | .agg l => match p.P l with
      | some (a, []) => some a
      | _ => none
    | _ => none
  e a := .agg (p.e a)
  norm x a h := by
    split at h
    · split at h
      · rename_i l b hb
        simp only [Option.some.injEq] at h
        subst h
        obtain ⟨l1, e1, n1⟩ := p.ok _ _ _ hb
        simp only [List.append_nil] at e1
        subst e1
        exact .agg n1.1 n1.2
      · cases h
    · cases h
  cl a := p.cl a

def intP : Par Int where
  A := aI
  e := .i
  norm x a h := by
    unfold aI at h
    split at h
    · simp only [Option.some.injEq] at h; subst h; exact .refl
    · cases h
  cl _ := rfl
def boolP : Par Bool where
  A := aB
  e := .b
  norm x a h := by
    unfold aB at h
    split at h
    · simp only [Option.some.injEq] at h; subst h; exact .refl
    · cases h
  cl _ := rfl
def strP : Par ByteArray where
  A := aS
  e := .s
  norm x a h := by
    unfold aS at h
    split at h
    · simp only [Option.some.injEq] at h; subst h; exact .refl
    · cases h
  cl _ := rfl

def aSl {α : Type} (f : Sl → Option (List α)) : AV → Option (List α)
  | .sl s => f s
  | .val (.slice none 0 0) => some []
  | _ => none

def slP {α : Type} (mk : List α → Sl) (f : Sl → Option (List α)) (hf : ∀ s l, f s = some l → s = mk l) (h0 : (mk []).len = 0) : Par (List α) where
  A := aSl f
  e l := .sl (mk l)
  norm x a h := by
    unfold aSl at h
    split at h
    · rw [hf _ _ h]; exact .refl
    · simp only [Option.some.injEq] at h; subst h; exact .nil h0
    · cases h
  cl _ := rfl

def intsP : Par (List Int) := slP .ints (fun | .ints l => some l | _ => none) (fun s l h => by cases s <;> simp_all) rfl
def strsP : Par (List ByteArray) := slP .strs (fun | .strs l => some l | _ => none) (fun s l h => by cases s <;> simp_all) rfl
def bytesP : Par (List UInt8) := slP .bytes (fun | .bytes l => some l | _ => none) (fun s l h => by cases s <;> simp_all) rfl
def powersP : Par (List Power) := slP .powers (fun | .powers l => some l | _ => none) (fun s l h => by cases s <;> simp_all) rfl
def packetsP : Par (List Packet) := slP .packets (fun | .packets l => some l | _ => none) (fun s l h => by cases s <;> simp_all) rfl
def waitsP : Par (List Wait) := slP .waits (fun | .waits l => some l | _ => none) (fun s l h => by cases s <;> simp_all) rfl
def askedP : Par (List Asked) := slP .asked (fun | .asked l => some l | _ => none) (fun s l h => by cases s <;> simp_all) rfl
def ripesP : Par (List Ripe) := slP .ripes (fun | .ripes l => some l | _ => none) (fun s l h => by cases s <;> simp_all) rfl
def deedsP : Par (List Deed) := slP .deeds (fun | .deeds l => some l | _ => none) (fun s l h => by cases s <;> simp_all) rfl
def repliesP : Par (List Reply) := slP .replies (fun | .replies l => some l | _ => none) (fun s l h => by cases s <;> simp_all) rfl
def ordersP : Par (List Order) := slP .orders (fun | .orders l => some l | _ => none) (fun s l h => by cases s <;> simp_all) rfl
def carriesP : Par (List Carry) := slP .carries (fun | .carries l => some l | _ => none) (fun s l h => by cases s <;> simp_all) rfl

/-- What a function answers: what must hold, and the answer. -/
structure Ans where
  obl : List Prop
  v : AV

def spec0 (F : Ans) : Spec := fun args _ => match args with
  | [] => some ⟨F.obl, F.v, []⟩
  | _ => none
def spec1 {α : Type} (p : Par α) (F : α → Ans) : Spec := fun args _ => match args with
  | [x] => match p.A x with
    | some a => some ⟨(F a).obl, (F a).v, []⟩
    | none => none
  | _ => none
def spec2 {α β : Type} (p : Par α) (q : Par β) (F : α → β → Ans) : Spec := fun args _ => match args with
  | [x, y] => match p.A x, q.A y with
    | some a, some b => some ⟨(F a b).obl, (F a b).v, []⟩
    | _, _ => none
  | _ => none
def spec3 {α β γ : Type} (p : Par α) (q : Par β) (r : Par γ) (F : α → β → γ → Ans) : Spec := fun args _ => match args with
  | [x, y, z] => match p.A x, q.A y, r.A z with
    | some a, some b, some c => some ⟨(F a b c).obl, (F a b c).v, []⟩
    | _, _, _ => none
  | _ => none
def spec4 {α β γ δ : Type} (p : Par α) (q : Par β) (r : Par γ) (s : Par δ) (F : α → β → γ → δ → Ans) : Spec := fun args _ => match args with
  | [x, y, z, u] => match p.A x, q.A y, r.A z, s.A u with
    | some a, some b, some c, some d => some ⟨(F a b c d).obl, (F a b c d).v, []⟩
    | _, _, _, _ => none
  | _ => none
def spec5 {α β γ δ ε : Type} (p : Par α) (q : Par β) (r : Par γ) (s : Par δ) (t : Par ε) (F : α → β → γ → δ → ε → Ans) : Spec := fun args _ => match args with
  | [x, y, z, u, v] => match p.A x, q.A y, r.A z, s.A u, t.A v with
    | some a, some b, some c, some d, some e => some ⟨(F a b c d e).obl, (F a b c d e).v, []⟩
    | _, _, _, _, _ => none
  | _ => none

/-- The state in which a body begins. -/
def start (fn : Func) (N : Nat) (args : List AV) : St := ⟨args ++ List.replicate (fn.ntmps - args.length) .any, List.replicate N .free⟩

theorem specOk_norm {Y : Env} {f : FuncId} {fn : Func} {c : Code} (N : Nat) (hf : Y.P.funcs[f]? = some fn) (hb : fn.body = some c) {F : Spec}
    (h : ∀ args bk r, F args bk = some r → AllP r.obl → ∃ args', NormL args args' ∧ AV.clearL (fun _ => true) args' = true ∧ r.bs = [] ∧ closed r.v = true ∧ ∀ G, Wp Y G c (start fn N args') (fnQ Y.P fn r.v)) :
    SpecOk Y.P f F := by
  intro G blks nu w hm args vs hvs bk hbk r hr hobl
  obtain ⟨args', hn, hcl, hbs, hrc, hwp⟩ := h args bk r hr hobl
  have hall : args'.all closed = true := by
    rw [List.all_eq_true]
    intro x hx
    obtain ⟨i, hi, rfl⟩ := List.getElem_of_mem hx
    have := clearL_get hcl i hi
    rwa [List.getD_eq_getElem?_getD, List.getElem?_eq_getElem hi] at this
  exact call_ok N hf hb hm (hvs.norm hn) hall hbs hrc hwp

section
variable {Y : Env} {f : FuncId} {fn : Func} {c : Code} (N : Nat) (hf : Y.P.funcs[f]? = some fn) (hb : fn.body = some c)
include hf hb

theorem spec0_ok {F : Ans} (hc : closed F.v = true) (h : AllP F.obl → ∀ G, Wp Y G c (start fn N []) (fnQ Y.P fn F.v)) : SpecOk Y.P f (spec0 F) :=
  specOk_norm N hf hb fun args bk r hr ho => by
    unfold spec0 at hr
    split at hr
    · simp only [Option.some.injEq] at hr; subst hr
      exact ⟨[], .nil, rfl, rfl, hc, h ho⟩
    · cases hr

theorem spec1_ok {α : Type} {p : Par α} {F : α → Ans} (hc : ∀ a, closed (F a).v = true) (h : ∀ a, AllP (F a).obl → ∀ G, Wp Y G c (start fn N [p.e a]) (fnQ Y.P fn (F a).v)) : SpecOk Y.P f (spec1 p F) :=
  specOk_norm N hf hb fun args bk r hr ho => by
    unfold spec1 at hr
    split at hr
    · split at hr
      · rename_i a ha
        simp only [Option.some.injEq] at hr; subst hr
        exact ⟨[p.e a], .cons (p.norm _ _ ha) .nil, by have := p.cl a; unfold closed at this; simp [AV.clearL, this], rfl, hc a, h a ho⟩
      · cases hr
    · cases hr

theorem spec2_ok {α β : Type} {p : Par α} {q : Par β} {F : α → β → Ans} (hc : ∀ a b, closed (F a b).v = true)
    (h : ∀ a b, AllP (F a b).obl → ∀ G, Wp Y G c (start fn N [p.e a, q.e b]) (fnQ Y.P fn (F a b).v)) : SpecOk Y.P f (spec2 p q F) :=
  specOk_norm N hf hb fun args bk r hr ho => by
    unfold spec2 at hr
    split at hr
    · split at hr
      · rename_i a b ha hb
        simp only [Option.some.injEq] at hr; subst hr
        exact ⟨[p.e a, q.e b], .cons (p.norm _ _ ha) (.cons (q.norm _ _ hb) .nil), by have h1 := p.cl a; have h2 := q.cl b; unfold closed at h1 h2; simp [AV.clearL, h1, h2], rfl, hc a b, h a b ho⟩
      · cases hr
    · cases hr

theorem spec3_ok {α β γ : Type} {p : Par α} {q : Par β} {r : Par γ} {F : α → β → γ → Ans} (hc : ∀ a b c, closed (F a b c).v = true)
    (h : ∀ a b d, AllP (F a b d).obl → ∀ G, Wp Y G c (start fn N [p.e a, q.e b, r.e d]) (fnQ Y.P fn (F a b d).v)) : SpecOk Y.P f (spec3 p q r F) :=
  specOk_norm N hf hb fun args bk u hr ho => by
    unfold spec3 at hr
    split at hr
    · split at hr
      · rename_i a b d ha hb hd
        simp only [Option.some.injEq] at hr; subst hr
        exact ⟨[p.e a, q.e b, r.e d], .cons (p.norm _ _ ha) (.cons (q.norm _ _ hb) (.cons (r.norm _ _ hd) .nil)),
          by have h1 := p.cl a; have h2 := q.cl b; have h3 := r.cl d; unfold closed at h1 h2 h3; simp [AV.clearL, h1, h2, h3], rfl, hc a b d, h a b d ho⟩
      · cases hr
    · cases hr

theorem spec4_ok {α β γ δ : Type} {p : Par α} {q : Par β} {r : Par γ} {s : Par δ} {F : α → β → γ → δ → Ans} (hc : ∀ a b c d, closed (F a b c d).v = true)
    (h : ∀ a b d e, AllP (F a b d e).obl → ∀ G, Wp Y G c (start fn N [p.e a, q.e b, r.e d, s.e e]) (fnQ Y.P fn (F a b d e).v)) : SpecOk Y.P f (spec4 p q r s F) :=
  specOk_norm N hf hb fun args bk u hr ho => by
    unfold spec4 at hr
    split at hr
    · split at hr
      · rename_i a b d e ha hb hd he
        simp only [Option.some.injEq] at hr; subst hr
        exact ⟨[p.e a, q.e b, r.e d, s.e e], .cons (p.norm _ _ ha) (.cons (q.norm _ _ hb) (.cons (r.norm _ _ hd) (.cons (s.norm _ _ he) .nil))),
          by have h1 := p.cl a; have h2 := q.cl b; have h3 := r.cl d; have h4 := s.cl e; unfold closed at h1 h2 h3 h4; simp [AV.clearL, h1, h2, h3, h4], rfl, hc a b d e, h a b d e ho⟩
      · cases hr
    · cases hr

theorem spec5_ok {α β γ δ ε : Type} {p : Par α} {q : Par β} {r : Par γ} {s : Par δ} {t : Par ε} {F : α → β → γ → δ → ε → Ans} (hc : ∀ a b c d e, closed (F a b c d e).v = true)
    (h : ∀ a b d e g, AllP (F a b d e g).obl → ∀ G, Wp Y G c (start fn N [p.e a, q.e b, r.e d, s.e e, t.e g]) (fnQ Y.P fn (F a b d e g).v)) : SpecOk Y.P f (spec5 p q r s t F) :=
  specOk_norm N hf hb fun args bk u hr ho => by
    unfold spec5 at hr
    split at hr
    · split at hr
      · rename_i a b d e g ha hb hd he hg
        simp only [Option.some.injEq] at hr; subst hr
        exact ⟨[p.e a, q.e b, r.e d, s.e e, t.e g], .cons (p.norm _ _ ha) (.cons (q.norm _ _ hb) (.cons (r.norm _ _ hd) (.cons (s.norm _ _ he) (.cons (t.norm _ _ hg) .nil)))),
          by have h1 := p.cl a; have h2 := q.cl b; have h3 := r.cl d; have h4 := s.cl e; have h5 := t.cl g; unfold closed at h1 h2 h3 h4 h5; simp [AV.clearL, h1, h2, h3, h4, h5], rfl, hc a b d e g, h a b d e g ho⟩
      · cases hr
    · cases hr
end

/-- Slots by number; all others unknown. -/
def mk (n : Nat) (l : List (Nat × AV)) : List AV := l.foldl (fun s p => s.set p.1 p.2) (List.replicate n .any)

def runS (Y : Env) (ops : Array Oper) (gs : List Nat) (ids : Nat → Nat) (fp : Nat → Option FP) (ds : List Nat) (st : St) : Option (List Prop × St) :=
  match runList Y ops gs ids fp (List.range ops.size) (st.enter gs) with
  | some (ob, r) => some (ob, r.back.forget ds [])
  | none => none

theorem mayForget_nil (st : St) (ds : List Nat) : st.mayForget ds [] = true := by
  have h1 : ∀ x : AV, x.clear (fun _ => false) = true := by
    intro x
    have main : ∀ n, ∀ x : AV, SizeOf.sizeOf x < n → x.clear (fun _ => false) = true := by
      intro n
      induction n with
      | zero => intro x hx; omega
      | succ n ih =>
        intro x hx
        have hl : ∀ l : List AV, SizeOf.sizeOf l < n → AV.clearL (fun _ => false) l = true := by
          intro l
          induction l with
          | nil => intro _; rfl
          | cons y l ihl =>
            intro hy
            simp only [List.cons.sizeOf_spec] at hy
            simp only [AV.clearL, Bool.and_eq_true]
            exact ⟨ih y (by omega), ihl (by omega)⟩
        cases x <;> simp only [AV.clear, Bool.not_false]
        case agg cs => exact hl cs (by simp at hx; omega)
        case tup cs => exact hl cs (by simp at hx; omega)
        case fn f cs => exact hl cs (by simp at hx; omega)
    exact main _ x (Nat.lt_succ_self _)
  have h2 : ∀ l : List AV, AV.clearL (fun _ => false) l = true := by
    intro l
    induction l with
    | nil => rfl
    | cons y l ih => simp only [AV.clearL, Bool.and_eq_true]; exact ⟨h1 y, ih⟩
  have h0 : (List.contains ([] : List Nat)) = fun _ => false := by funext x; rfl
  unfold St.mayForget
  rw [h0]
  simp only [Bool.and_eq_true]
  refine ⟨h2 _, List.all_eq_true.2 fun B _ => ?_⟩
  cases B <;> first | rfl | exact h2 _

section
variable {Y : Env} {G : Gl} {st st' : St} {Q : Exit → St → Prop}

theorem Wp_reg (hY : Y.Ok) {id : Nat} {ops : Array Oper} (gs : List Nat) (ids : Nat → Nat) (ds : List Nat) {ob : List Prop} (hr : runS Y ops gs ids (fun _ => none) ds st = some (ob, st')) (hob : AllP ob) (hq : Q .normal st') :
    Wp Y G (.region id ops false) st Q := by
  unfold runS at hr
  split at hr
  · rename_i ob' r h1
    simp only [Option.some.injEq, Prod.mk.injEq] at hr
    obtain ⟨rfl, rfl⟩ := hr
    intro a w hi
    obtain ⟨nu, hn⟩ := hi
    exact region_text hY (hn.enter gs) h1 hob fun nu' a' w' h' => ⟨_, hq, Inv.forget ⟨nu', h'.back⟩ ds [] (mayForget_nil _ _)⟩
  · cases hr

theorem Wp_drw (hY : Y.Ok) (hm : Y.P.follows .mixedOrders = true) {id : Nat} {ops : Array Oper} (gs : List Nat) (ids : Nat → Nat) (fp : Nat → FP) (ds : List Nat) (hlex : lexOk ops fp = true) {ob : List Prop}
    (hr : runS Y ops gs ids (fun i => some (fp i)) ds st = some (ob, st')) (hob : AllP ob) (hq : Q .normal st') : Wp Y G (.region id ops true) st Q := by
  unfold runS at hr
  split at hr
  · rename_i ob' r h1
    simp only [Option.some.injEq, Prod.mk.injEq] at hr
    obtain ⟨rfl, rfl⟩ := hr
    intro a w hi
    obtain ⟨nu, hn⟩ := hi
    exact region_draw hY hm hlex (hn.enter gs) h1 hob fun nu' a' w' h' => ⟨_, hq, Inv.forget ⟨nu', h'.back⟩ ds [] (mayForget_nil _ _)⟩
  · cases hr

theorem Wp_eq (e : st = st') {c : Code} (h : Wp Y G c st' Q) : Wp Y G c st Q := e ▸ h
end

def nth (l : List Nat) (i : Nat) : Nat := l.getD i 0
def fpl (l : List FP) (i : Nat) : FP := l.getD i ⟨[], [], []⟩

def look : List (FuncId × Spec) → FuncId → Option Spec
  | [], _ => none
  | p :: l, f => if f = p.1 then some p.2 else look l f

def TabOk (P : Program) : List (FuncId × Spec) → Prop
  | [] => True
  | p :: l => SpecOk P p.1 p.2 ∧ TabOk P l

theorem look_ok {P : Program} : ∀ {l : List (FuncId × Spec)}, TabOk P l → (Env.mk P (look l)).Ok
  | [], _, f, F, h => by cases h
  | p :: l, ht, f, F, h => by
    simp only [look] at h
    split at h
    · rename_i e
      simp only [Option.some.injEq] at h
      subst h; subst e
      exact ht.1
    · exact look_ok ht.2 f F h

end Go.Proofs.Ytfmcmcbckhmfaaa.Ab
