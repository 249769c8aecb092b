/-
  Whole pieces of code over abstract states; a function's specification out of a walk.
-/
import Derived.Test.YtfmcmcbckhmfaaaAbAny
import Derived.Deep.LoopGhost
namespace Go.Proofs.Ytfmcmcbckhmfaaa.Ab
open Go Go.RowKit

mutual
/-- No number of a block of those named occurs. -/
def AV.clear (p : Nat → Bool) : AV → Bool
  | .any => true
  | .val _ => true
  | .agg cs => AV.clearL p cs
  | .tup cs => AV.clearL p cs
  | .sl _ => true
  | .own j => !p j
  | .ptr j _ => !p j
  | .eptr _ _ _ => true
  | .fn _ cs => AV.clearL p cs
def AV.clearL (p : Nat → Bool) : List AV → Bool
  | [] => true
  | x :: l => AV.clear p x && AV.clearL p l
end

theorem clearL_get {p : Nat → Bool} : ∀ {cs : List AV}, AV.clearL p cs = true → ∀ i, i < cs.length → (cs.getD i .any).clear p = true
  | [], _, i, hi => absurd hi (Nat.not_lt_zero i)
  | x :: l, h, 0, _ => by
    simp only [AV.clearL, Bool.and_eq_true] at h
    exact h.1
  | x :: l, h, i + 1, hi => by
    simp only [AV.clearL, Bool.and_eq_true] at h
    have := clearL_get h.2 i (by simpa using hi)
    simpa using this

theorem sl_cell_clear (p : Nat → Bool) (s : Sl) (k c : Nat) (hc : c < s.sz) : (s.cell k c).clear p = true := by
  have h : ∀ (s : Sl) (k : Nat), AV.clearL p (s.row k) = true := by
    intro s k
    cases s <;> simp [Sl.row, AV.clearL, AV.clear, Power.cells, Packet.cells, Wait.cells, Asked.cells, Ripe.cells, Deed.cells, Reply.cells, Order.cells, Carry.cells]
  exact clearL_get (h s k) c (by rw [Sl.row_length]; exact hc)

theorem Rd.change {C C' : Cx} {p : Nat → Bool} (hcell : ∀ a v, ¬ C.L a.block → C.w.cell? a = some v → C'.w.cell? a = some v ∧ ¬ C'.L a.block)
    (hnu : ∀ j u, p j = false → C.nu j = some u → C'.nu j = some u) {x : AV} {v : Value} (h : Rd C x v) (hx : x.clear p = true) : Rd C' x v := by
  induction h with
  | any => exact .any
  | val => exact .val
  | agg hl _ ih => exact .agg hl fun i hi => ih i hi (clearL_get hx i hi)
  | tup hl _ ih => exact .tup hl fun i hi => ih i hi (clearL_get hx i hi)
  | fn hl _ ih => exact .fn hl fun i hi => ih i hi (clearL_get hx i hi)
  | slnil h0 => exact .slnil h0
  | @sl s a cap g hm hc hcl hL _ ih =>
    refine .sl a cap g hm hc (fun k c hk hcc => (hcell _ _ ?_ (hcl k c hk hcc)).1) (fun h0 => ?_) (fun k c hk hc => ih k c hk hc (sl_cell_clear p s k c hc))
    · rw [add_block]; exact hL (by omega)
    · have := (hcell _ _ (by rw [add_block]; exact hL h0) (hcl 0 0 h0 (sz_pos s))).2
      rwa [add_block] at this
  | @own j v h => exact .own (hnu _ _ (by simpa [AV.clear] using hx) h)
  | @ptr j off b h => exact .ptr (hnu _ _ (by simpa [AV.clear] using hx) h)
  | @eptr s k off a g hs hL hcl hrd ih =>
    refine .eptr a g hs (fun h0 => ?_) (fun c hc => (hcell _ _ ?_ (hcl c hc)).1) (fun c hc => ih c hc (sl_cell_clear p s k _ hc))
    · have := (hcell _ _ (by rw [add_block]; exact hL h0) (hcl 0 (by omega))).2
      rwa [add_block] at this
    · rw [add_block]; exact hL (by omega)

structure St where
  slots : List AV
  blks : List Blk

def St.r (st : St) : RSt := ⟨st.slots.map .plain, st.blks⟩

def SV.out : SV → AV
  | .plain x => x
  | .cond _ _ => .any

def RSt.back (r : RSt) : St := ⟨r.slots.map SV.out, r.blks⟩

def St.slot (st : St) (d : Nat) : AV := st.slots.getD d .any
def St.blk (st : St) (j : Nat) : Blk := st.blks.getD j .dead

structure NInv (G : Gl) (st : St) (nu : Nat → Option Value) (a : Act) (w : World) : Prop where
  mem : MInv G st.blks nu w
  size : a.tmps.size = st.slots.length
  defers : a.defers = []
  slots : ∀ d, d < st.slots.length → Rd (cx G st.blks nu w) (st.slot d) (a.tmps.getD d undef)

def Inv (G : Gl) (st : St) (a : Act) (w : World) : Prop := ∃ nu, NInv G st nu a w

theorem getD_map {α β : Type} (f : α → β) (l : List α) (i : Nat) (d : α) (e : β) (h : i < l.length) : (l.map f).getD i e = f (l.getD i d) := by
  simp [List.getD_eq_getElem?_getD, List.getElem?_eq_getElem h]

/-- The region's beginning: what its guards will hold is forgotten. -/
def St.enter (gs : List Nat) (st : St) : RSt := ⟨gs.foldl (fun l d => l.set d (.plain .any)) (st.slots.map .plain), st.blks⟩

theorem enter_slot (gs : List Nat) : ∀ (l : List SV) (d : Nat), (∀ d, ∃ x, l.getD d (.plain .any) = .plain x) →
    (gs.foldl (fun l d => l.set d (.plain .any)) l).length = l.length ∧ ((gs.foldl (fun l d => l.set d (.plain .any)) l).getD d (.plain .any) = .plain .any ∨ (gs.foldl (fun l d => l.set d (.plain .any)) l).getD d (.plain .any) = l.getD d (.plain .any)) := by
  induction gs with
  | nil => exact fun l d _ => ⟨rfl, .inr rfl⟩
  | cons g gs ih =>
    intro l d hl
    have hl' : ∀ d, ∃ x, (l.set g (.plain .any)).getD d (.plain .any) = .plain x := by
      intro d
      rcases getD_set_cases l g d (SV.plain .any) (.plain .any) with e | ⟨_, _, e⟩
      · rw [e]; exact hl d
      · exact ⟨_, e⟩
    obtain ⟨h1, h2⟩ := ih (l.set g (.plain .any)) d hl'
    refine ⟨by simpa using h1, ?_⟩
    rcases h2 with h2 | h2
    · exact .inl h2
    · rcases getD_set_cases l g d (SV.plain .any) (.plain .any) with e | ⟨_, _, e⟩
      · exact .inr (h2.trans e)
      · exact .inl (h2.trans e)

theorem NInv.enter {G : Gl} {st : St} {nu : Nat → Option Value} {a : Act} {w : World} (h : NInv G st nu a w) (gs : List Nat) : RInv G gs (st.enter gs) nu a w := by
  have hp : ∀ d, ∃ x, (st.slots.map SV.plain).getD d (.plain .any) = .plain x := by
    intro d
    by_cases hd : d < st.slots.length
    · exact ⟨_, getD_map _ _ _ .any _ hd⟩
    · exact ⟨.any, by rw [List.getD_eq_getElem?_getD, List.getElem?_eq_none (by simpa using hd)]; rfl⟩
  have hlen : (st.enter gs).slots.length = st.slots.length := by simpa [St.enter] using (enter_slot gs (st.slots.map .plain) 0 hp).1
  refine ⟨h.mem, by rw [hlen]; exact h.size, h.defers, fun d hd => ?_⟩
  rw [hlen] at hd
  rcases (enter_slot gs (st.slots.map .plain) d hp).2 with e | e
  · have : (st.enter gs).slot d = .plain .any := e
    rw [this]; exact Rd.any
  · have : (st.enter gs).slot d = .plain (st.slot d) := e.trans (getD_map _ _ _ .any _ hd)
    rw [this]; exact h.slots d hd

theorem RInv.back {G : Gl} {gs : List Nat} {r : RSt} {nu : Nat → Option Value} {a : Act} {w : World} (h : RInv G gs r nu a w) : NInv G r.back nu a w := by
  refine ⟨h.mem, by simpa [RSt.back] using h.size, h.defers, fun d hd => ?_⟩
  have hd' : d < r.slots.length := by simpa [RSt.back] using hd
  have e : r.back.slot d = (r.slot d).out := getD_map SV.out r.slots d (.plain .any) .any hd'
  rw [e]
  have hs := h.slots d hd'
  cases hx : r.slot d with
  | plain x => rw [hx] at hs; exact hs
  | cond t x => exact Rd.any

def Wp (Y : Env) (G : Gl) (c : Code) (st : St) (Q : Exit → St → Prop) : Prop :=
  ∀ a w, Inv G st a w → c.wp Y.P (fun e a' w' => ∃ st', Q e st' ∧ Inv G st' a' w') a w

def thenQ (k : St → Prop) (Q : Exit → St → Prop) : Exit → St → Prop
  | .normal, s => k s
  | e, s => Q e s

def blockQ (id : Nat) (Q : Exit → St → Prop) : Exit → St → Prop
  | .exit id', s => if id' = id then Q .normal s else Q (.exit id') s
  | e, s => Q e s

section rules
variable {Y : Env} {G : Gl} {st : St} {Q : Exit → St → Prop}

theorem Wp_seq {x y : Code} (h : Wp Y G x st (thenQ (fun s => Wp Y G y s Q) Q)) : Wp Y G (.seq x y) st Q := by
  intro a w hi
  refine wp_seq (wp_mono (h a w hi) fun e a' w' hq => ?_)
  obtain ⟨st', h1, h2⟩ := hq
  cases e <;> first
    | exact h1 a' w' h2
    | exact ⟨st', h1, h2⟩

theorem Wp_block {id : Nat} {c : Code} (h : Wp Y G c st (blockQ id Q)) : Wp Y G (.block id c) st Q := by
  intro a w hi
  refine wp_block (wp_mono (h a w hi) fun e a' w' hq => ?_)
  obtain ⟨st', h1, h2⟩ := hq
  cases e with
  | exit id' =>
    simp only [Exit.inBlock]
    simp only [blockQ] at h1
    split
    · rename_i he; rw [if_pos he] at h1; exact ⟨st', h1, h2⟩
    · rename_i he; rw [if_neg he] at h1; exact ⟨st', h1, h2⟩
  | _ => exact ⟨st', h1, h2⟩

theorem Wp_skip (h : Q .normal st) : Wp Y G .skip st Q := fun _ _ hi => wp_skip ⟨st, h, hi⟩
theorem Wp_ret (h : Q .ret st) : Wp Y G .ret st Q := fun _ _ hi => wp_ret ⟨st, h, hi⟩
theorem Wp_exit {id : Nat} (h : Q (.exit id) st) : Wp Y G (.exit id) st Q := fun _ _ hi => wp_exit ⟨st, h, hi⟩

theorem Wp_cond {c : Operand} {x y : Code} (b : Bool) (hc : (match c with | .tmp d => st.slot d | .const v => .val v | _ => .any) = .val (.bool b)) (ht : b = true → Wp Y G x st Q) (hf : b = false → Wp Y G y st Q) :
    Wp Y G (.cond c x y) st Q := by
  intro a w hi
  have hv : a.eval c = .bool b := by
    obtain ⟨nu, hn⟩ := hi
    cases c with
    | tmp d =>
      simp only at hc
      by_cases hd : d < st.slots.length
      · have := hn.slots d hd
        rw [hc] at this
        simp only [Act.eval]
        generalize a.tmps.getD d undef = v at this
        cases this; rfl
      · have : st.slot d = .any := by unfold St.slot; rw [List.getD_eq_getElem?_getD, List.getElem?_eq_none (Nat.le_of_not_lt hd)]; rfl
        rw [this] at hc; cases hc
    | const v => simp only [AV.val.injEq] at hc; exact hc
    | global g => cases hc
    | func f => cases hc
  exact wp_cond_split hv (fun e => ht e a w hi) (fun e => hf e a w hi)

/-- A region in the order of the text. -/
theorem Wp_region (hY : Y.Ok) {id : Nat} {ops : Array Oper} (gs : List Nat) (ids : Nat → Nat) {ob : List Prop} {r : RSt}
    (hr : runList Y ops gs ids (fun _ => none) (List.range ops.size) (st.enter gs) = some (ob, r)) (hob : AllP ob) (hq : Q .normal r.back) : Wp Y G (.region id ops false) st Q := by
  intro a w hi
  obtain ⟨nu, hn⟩ := hi
  exact region_text hY (hn.enter gs) hr hob fun nu' a' w' h' => ⟨_, hq, nu', h'.back⟩

/-- A region that draws its order. -/
theorem Wp_draw (hY : Y.Ok) (hm : Y.P.follows .mixedOrders = true) {id : Nat} {ops : Array Oper} (gs : List Nat) (ids : Nat → Nat) (fp : Nat → FP) (hlex : lexOk ops fp = true) {ob : List Prop} {r : RSt}
    (hr : runList Y ops gs ids (fun i => some (fp i)) (List.range ops.size) (st.enter gs) = some (ob, r)) (hob : AllP ob) (hq : Q .normal r.back) : Wp Y G (.region id ops true) st Q := by
  intro a w hi
  obtain ⟨nu, hn⟩ := hi
  exact region_draw hY hm hlex (hn.enter gs) hr hob fun nu' a' w' h' => ⟨_, hq, nu', h'.back⟩

/-- Slots are forgotten, blocks are given up. -/
def St.forget (ds js : List Nat) (st : St) : St :=
  ⟨ds.foldl (fun l d => l.set d .any) st.slots, js.foldl (fun l j => l.set j .free) st.blks⟩

def Blk.clear (p : Nat → Bool) : Blk → Bool
  | .cells _ cs => AV.clearL p cs
  | _ => true

def St.mayForget (ds js : List Nat) (st : St) : Bool :=
  AV.clearL js.contains (st.forget ds js).slots && (st.forget ds js).blks.all (Blk.clear js.contains)

theorem foldl_set_spec {α : Type} (x d : α) : ∀ (js : List Nat) (l : List α), (js.foldl (fun l j => l.set j x) l).length = l.length ∧
    (∀ i, i ∉ js → (js.foldl (fun l j => l.set j x) l).getD i d = l.getD i d) ∧ ∀ i, i ∈ js → i < l.length → (js.foldl (fun l j => l.set j x) l).getD i d = x := by
  intro js
  induction js with
  | nil => exact fun l => ⟨rfl, fun _ _ => rfl, fun _ h => by cases h⟩
  | cons j js ih =>
    intro l
    obtain ⟨h1, h2, h3⟩ := ih (l.set j x)
    refine ⟨by simpa using h1, fun i hi => ?_, fun i hi hl => ?_⟩
    · simp only [List.mem_cons, not_or] at hi
      exact (h2 i hi.2).trans (getD_set_ne (fun e => hi.1 e.symm))
    · by_cases hij : i ∈ js
      · exact h3 i hij (by simpa using hl)
      · have : i = j := by simpa [hij] using hi
        subst this
        exact (h2 i hij).trans (getD_set_self hl)

theorem Inv.forget {a : Act} {w : World} (h : Inv G st a w) (ds js : List Nat) (hc : st.mayForget ds js = true) : Inv G (st.forget ds js) a w := by
  obtain ⟨nu, hn⟩ := h
  unfold St.mayForget at hc
  simp only [Bool.and_eq_true] at hc
  obtain ⟨s1, s2, s3⟩ := foldl_set_spec AV.any AV.any ds st.slots
  obtain ⟨b1, b2, b3⟩ := foldl_set_spec Blk.free Blk.dead js st.blks
  have hblk : ∀ j, j ∉ js → (st.forget ds js).blks.getD j .dead = st.blks.getD j .dead := b2
  have hblk' : ∀ j, j ∈ js → (st.forget ds js).blks.getD j .dead = .free ∨ (st.forget ds js).blks.getD j .dead = .dead := by
    intro j hj
    by_cases hl : j < st.blks.length
    · exact .inl (b3 j hj hl)
    · right
      show (js.foldl (fun l j => l.set j Blk.free) st.blks).getD j .dead = .dead
      rw [List.getD_eq_getElem?_getD, List.getElem?_eq_none (by rw [b1]; omega)]; rfl
  let nu' : Nat → Option Value := fun j => if js.contains j then none else nu j
  have hlive : ∀ j v, ((st.forget ds js).blks.getD j .dead).live = true → nu' j = some v → (st.blks.getD j .dead).live = true ∧ nu j = some v ∧ j ∉ js := by
    intro j v hl hv
    by_cases hj : j ∈ js
    · rcases hblk' j hj with e | e <;> rw [e] at hl <;> cases hl
    · rw [hblk j hj] at hl
      have : js.contains j = false := by simpa using hj
      simp only [nu', this] at hv
      exact ⟨hl, hv, hj⟩
  have hcell : ∀ x v, ¬ (cx G st.blks nu w).L x.block → (cx G st.blks nu w).w.cell? x = some v → (cx G (st.forget ds js).blks nu' w).w.cell? x = some v ∧ ¬ (cx G (st.forget ds js).blks nu' w).L x.block := by
    intro x v hl hcv
    refine ⟨hcv, ?_⟩
    rintro (h0 | ⟨j, u, h1, h2, h3⟩)
    · exact hl (.inl h0)
    · obtain ⟨k1, k2, _⟩ := hlive j u h1 h2
      exact hl (.inr ⟨j, u, k1, k2, h3⟩)
  have hnu : ∀ j u, js.contains j = false → (cx G st.blks nu w).nu j = some u → (cx G (st.forget ds js).blks nu' w).nu j = some u := by
    intro j u hj hu
    show nu' j = some u
    simp only [nu', hj]; exact hu
  refine ⟨nu', ⟨⟨fun j => ?_, ?_, ?_, hn.mem.os, hn.mem.tape, hn.mem.output, hn.mem.size, hn.mem.block⟩, ?_, hn.defers, fun d hd => ?_⟩⟩
  · by_cases hj : j ∈ js
    · rcases hblk' j hj with e | e <;> rw [e]
      · show nu' j = none
        have : js.contains j = true := by simpa using hj
        simp only [nu', this, if_true]
      · trivial
    · have hcon : js.contains j = false := by simpa using hj
      have hok := hn.mem.ok j
      have hcl : Blk.clear js.contains ((st.forget ds js).blks.getD j .dead) = true := by
        by_cases hl : j < (st.forget ds js).blks.length
        · rw [List.getD_eq_getElem?_getD, List.getElem?_eq_getElem hl]
          exact List.all_eq_true.1 hc.2 _ (List.getElem_mem hl)
        · rw [List.getD_eq_getElem?_getD, List.getElem?_eq_none (by omega)]; rfl
      rw [hblk j hj] at hcl ⊢
      generalize st.blks.getD j .dead = B at hok hcl
      cases B with
      | dead => trivial
      | free => show nu' j = none; simp only [nu', hcon]; exact hok
      | cells T cs =>
        obtain ⟨b, vs, e1, e2, e3⟩ := hok
        exact ⟨b, vs, hnu _ _ hcon e1, e2, e3.1, fun i hi => (e3.2 i hi).change hcell hnu (clearL_get hcl i hi)⟩
      | rows E s =>
        obtain ⟨v, vs, e1, e2, e3, e4⟩ := hok
        exact ⟨v, vs, hnu _ _ hcon e1, e2, fun k c hk hcc => (e3 k c hk hcc).change hcell hnu (sl_cell_clear _ s k c hcc), e4⟩
      | pub s =>
        obtain ⟨v, e1, e2⟩ := hok
        exact ⟨v, hnu _ _ hcon e1, e2.change hcell hnu rfl⟩
  · intro j j' v v' b hne hl hl' hv hv' hb
    obtain ⟨k1, k2, _⟩ := hlive j v hl hv
    obtain ⟨k3, k4, _⟩ := hlive j' v' hl' hv'
    exact hn.mem.apart j j' v v' b hne k1 k3 k2 k4 hb
  · intro j v b hl hv hb
    obtain ⟨k1, k2, _⟩ := hlive j v hl hv
    exact hn.mem.low j v b k1 k2 hb
  · exact hn.size.trans s1.symm
  · have hd' : d < st.slots.length := by rw [← s1]; exact hd
    have hcl := clearL_get hc.1 d hd
    by_cases hdm : d ∈ ds
    · have : (st.forget ds js).slot d = .any := s3 d hdm hd'
      rw [this]; exact .any
    · have e : (st.forget ds js).slot d = st.slot d := s2 d hdm
      have e' : (st.forget ds js).slots.getD d .any = st.slot d := e
      rw [e'] at hcl
      rw [e]
      exact (hn.slots d hd').change hcell hnu hcl

theorem Wp_forget {c : Code} (ds js : List Nat) (hc : st.mayForget ds js = true) (h : Wp Y G c (st.forget ds js) Q) : Wp Y G c st Q :=
  fun a w hi => h a w (hi.forget ds js hc)

theorem Wp_loop {c : Code} {ι : Type} (I : ι → St) (μ : ι → Nat) (ds js : List Nat) (i0 : ι) (hc : st.mayForget ds js = true) (h0 : st.forget ds js = I i0)
    (round : ∀ i, Wp Y G c (I i) (thenQ (fun s => ∃ i', μ i' < μ i ∧ s.mayForget ds js = true ∧ s.forget ds js = I i') Q)) : Wp Y G (.loop c) st Q := by
  intro a w hi
  refine wp_loop_ghost (fun n a w => ∃ i, μ i = n ∧ Inv G (I i) a w) (μ i0) ⟨i0, rfl, h0 ▸ hi.forget ds js hc⟩ ?_
  rintro n a w ⟨i, rfl, hI⟩
  refine wp_mono (round i a w hI) fun e a' w' hq => ?_
  obtain ⟨st', h1, h2⟩ := hq
  cases e with
  | normal =>
    obtain ⟨i', h3, h4, h5⟩ := h1
    exact ⟨μ i', h3, i', rfl, h5 ▸ h2.forget ds js h4⟩
  | _ => exact ⟨st', h1, h2⟩

theorem Wp_mono {c : Code} {Q' : Exit → St → Prop} (h : Wp Y G c st Q) (hq : ∀ e s, Q e s → Q' e s) : Wp Y G c st Q' :=
  fun a w hi => wp_mono (h a w hi) fun _ _ _ ⟨s, h1, h2⟩ => ⟨s, hq _ _ h1, h2⟩

/-- What one result is. -/
def resOne (P : Program) (st : St) : ResultVar → Option AV
  | .tmp t => some (st.slot t)
  | .cell p T => match st.slot p, pureVal P (isAgg T), pureVal P (sizeOf T) with
    | .ptr j off, some t, some n => match st.blk j with
      | .cells _ cs => if ((cs.drop off).take n).length = n ∧ (t = true ∨ n = 1) then some (readAs t ((cs.drop off).take n)) else none
      | _ => none
    | _, _, _ => none

def resAll (P : Program) (st : St) : List ResultVar → Option (List AV)
  | [] => some []
  | r :: l => match resOne P st r, resAll P st l with
    | some x, some xs => some (x :: xs)
    | _, _ => none

def tuple : List AV → AV
  | [x] => x
  | l => .tup l

def runOne (tmps : Array Value) : ResultVar → Sem Value
  | .tmp t => pure (tmps.getD t undef)
  | .cell p T => do loadVar T (← asAddr (tmps.getD p undef))

theorem resOne_run {nu : Nat → Option Value} {a : Act} {w : World} (h : NInv G st nu a w) {r : ResultVar} {x : AV} (hr : resOne Y.P st r = some x) :
    ∃ v, (runOne a.tmps r).run Y.P w = .ok v w ∧ Rd (cx G st.blks nu w) x v := by
  have slot : ∀ d, Rd (cx G st.blks nu w) (st.slot d) (a.tmps.getD d undef) := by
    intro d
    by_cases hd : d < st.slots.length
    · exact h.slots d hd
    · have : st.slot d = .any := by unfold St.slot; rw [List.getD_eq_getElem?_getD, List.getElem?_eq_none (Nat.le_of_not_lt hd)]; rfl
      rw [this]; exact .any
  cases r with
  | tmp t =>
    simp only [resOne, Option.some.injEq] at hr
    subst hr
    exact ⟨_, rfl, slot t⟩
  | cell p T =>
    simp only [resOne] at hr
    split at hr
    · rename_i j off t n hp ht hn
      split at hr
      · rename_i U cs hb
        split at hr
        · rename_i hc
          simp only [Option.some.injEq] at hr
          subst hr
          have hs := slot p
          rw [hp] at hs
          have hk := h.mem.ok j
          have hb' : st.blks.getD j .dead = .cells U cs := hb
          rw [hb'] at hk
          obtain ⟨b, vs, e1, e2, e3⟩ := hk
          generalize hv : a.tmps.getD p undef = v at hs
          cases hs with
          | @ptr _ _ b' e4 =>
            have : b = b' := by have := e1.symm.trans e4; simpa using this
            subst this
            have h1 : t = false → n = 1 := fun ht => hc.2.resolve_left (by simp [ht])
            have hr : Rds (cx G st.blks nu w) ((cs.drop off).take n) ((vs.drop off).take n) := (e3.drop off).take n
            have hrun := pureVal_isAgg_run (w := w) ht hn ⟨b, off, none⟩ ((vs.drop off).take n) (by rw [hr.1]; exact hc.1) h1 (fun i v hi => by
              rw [add_plain, cell_of_row w b (off + i) vs.toArray U (0, 0) e2]
              have hin : i < n := by have := (List.getElem?_eq_some_iff.1 hi).1; simp at this; omega
              rw [List.getElem?_take_of_lt hin, List.getElem?_drop] at hi
              simpa using hi)
            refine ⟨_, ?_, readAs_rd hr (fun ht => by rw [hc.1]; exact h1 ht)⟩
            simp only [runOne, hv, asAddr, Sem.run_bind, Sem.run_pure', Sem.run_pure, Result.andThen_ok, hrun]
        · cases hr
      · cases hr
    · cases hr

theorem resAll_run {nu : Nat → Option Value} {a : Act} {w : World} (h : NInv G st nu a w) : ∀ {l : List ResultVar} {xs : List AV}, resAll Y.P st l = some xs →
    ∃ vs, (l.mapM (runOne a.tmps)).run Y.P w = .ok vs w ∧ Rds (cx G st.blks nu w) xs vs
  | [], xs, hr => by
    simp only [resAll, Option.some.injEq] at hr
    subst hr
    exact ⟨[], rfl, .nil⟩
  | r :: l, xs, hr => by
    simp only [resAll] at hr
    split at hr
    · rename_i x xs' h1 h2
      simp only [Option.some.injEq] at hr
      subst hr
      obtain ⟨v, e1, e2⟩ := resOne_run h h1
      obtain ⟨vs, e3, e4⟩ := resAll_run h h2
      exact ⟨v :: vs, by simp [List.mapM_cons, e1, e3], .cons e2 e4⟩
    · cases hr

theorem results_run {nu : Nat → Option Value} {a : Act} {w : World} (h : NInv G st nu a w) {fn : Func} {xs : List AV} (hr : resAll Y.P st fn.results.toList = some xs) :
    ∃ v, (results fn a.tmps).run Y.P w = .ok v w ∧ Rd (cx G st.blks nu w) (tuple xs) v := by
  obtain ⟨vs, e1, e2⟩ := resAll_run h hr
  have e3 : (results fn a.tmps).run Y.P w = .ok (if h : vs.toArray.size = 1 then vs.toArray[0] else .tuple vs.toArray) w := by
    have : results fn a.tmps = (do let vs ← fn.results.mapM (runOne a.tmps); pure (if h : vs.size = 1 then vs[0] else .tuple vs)) := by
      unfold results runOne
      congr 1
    rw [this, Array.mapM_eq_mapM_toList]
    simp [e1]
  refine ⟨_, e3, ?_⟩
  cases xs with
  | nil =>
    have := e2.unnil
    subst this
    exact .tup rfl (fun i hi => absurd hi (Nat.not_lt_zero i))
  | cons x xs =>
    obtain ⟨v, vs', rfl, e4, e5⟩ := e2.uncons
    cases xs with
    | nil =>
      have := e5.unnil
      subst this
      simpa [tuple] using e4
    | cons y ys =>
      obtain ⟨u, us, rfl, e6, e7⟩ := e5.uncons
      rw [dif_neg (by simp)]
      exact .tup e2.1 e2.2

end rules

/-- How a function's body ends. -/
def fnQ (P : Program) (fn : Func) (r : AV) : Exit → St → Prop
  | .ret, s => ∃ xs, resAll P s fn.results.toList = some xs ∧ r = tuple xs
  | .normal, s => ∃ xs, resAll P s fn.results.toList = some xs ∧ r = tuple xs
  | _, _ => False

def closed (x : AV) : Bool := x.clear fun _ => true

theorem call_ok {Y : Env} {f : FuncId} {fn : Func} {c : Code} (N : Nat) (hf : Y.P.funcs[f]? = some fn) (hb : fn.body = some c) {G : Gl} {blks : List Blk} {nu : Nat → Option Value} {w : World} (hm : MInv G blks nu w)
    {args : List AV} {vs : List Value} (hvs : Rds (cx G blks nu w) args vs) {r : Res} (hcl : args.all closed = true) (hbs : r.bs = []) (hrc : closed r.v = true)
    (hwp : ∀ G, Wp Y G c ⟨args ++ List.replicate (fn.ntmps - args.length) .any, List.replicate N .free⟩ (fnQ Y.P fn r.v)) :
    Calls Y.P f vs.toArray w fun x w' => ∃ v, x = .returned v ∧ Post G blks nu w r v w' := by
  let G' : Gl := ⟨w, fun b => G.L0 b ∨ liveAt blks nu b, fun _ => False⟩
  let st0 : St := ⟨args ++ List.replicate (fn.ntmps - args.length) .any, List.replicate N .free⟩
  have hfree : ∀ j, (List.replicate N Blk.free).getD j .dead = .free ∨ (List.replicate N Blk.free).getD j .dead = .dead := by
    intro j
    by_cases hj : j < N
    · left; rw [List.getD_eq_getElem?_getD, List.getElem?_replicate_of_lt hj]; rfl
    · right; rw [List.getD_eq_getElem?_getD, List.getElem?_eq_none (by simpa using hj)]; rfl
  have hnl : ∀ j, ((List.replicate N Blk.free).getD j .dead).live = false := by
    intro j; rcases hfree j with e | e <;> rw [e] <;> rfl
  have hinit : NInv G' st0 (fun _ => none) { tmps := vs.toArray ++ Array.replicate (fn.ntmps - vs.toArray.size) undef, defers := [] } w := by
    refine ⟨⟨fun j => ?_, ?_, ?_, rfl, rfl, rfl, Nat.le_refl _, fun _ _ _ => rfl⟩, ?_, rfl, fun d hd => ?_⟩
    · show BlkOk _ _ _ ((List.replicate N Blk.free).getD j .dead)
      rcases hfree j with e | e <;> rw [e]
      · rfl
      · trivial
    · intro j j' v v' b _ hl
      rw [hnl j] at hl; cases hl
    · intro j v b hl
      rw [hnl j] at hl; cases hl
    · simp [st0, hvs.1]
    · by_cases hda : d < args.length
      · have e1 : st0.slot d = args.getD d .any := by
          show (args ++ _).getD d .any = _
          rw [List.getD_eq_getElem?_getD, List.getElem?_append_left hda, ← List.getD_eq_getElem?_getD]
        have e2 : (vs.toArray ++ Array.replicate (fn.ntmps - vs.toArray.size) undef).getD d undef = vs.getD d undef := by
          have : d < vs.length := by rw [hvs.1]; exact hda
          simp [Array.getElem?_append, this]
        have hr := hvs.2 d hda
        have hc : (args.getD d .any).clear (fun _ => true) = true := by
          rw [List.getD_eq_getElem?_getD, List.getElem?_eq_getElem hda]
          exact List.all_eq_true.1 hcl _ (List.getElem_mem hda)
        rw [e1]
        show Rd _ _ ((vs.toArray ++ Array.replicate (fn.ntmps - vs.toArray.size) undef).getD d undef)
        rw [e2]
        refine Rd.change (C := cx G blks nu w) (C' := cx G' st0.blks (fun _ => none) w) (p := fun _ => true) (fun a v hl hcv => ⟨hcv, ?_⟩) (fun j u hj => by cases hj) hr hc
        rintro (h0 | ⟨j, u, h1, _⟩)
        · exact hl h0
        · have := hnl j
          rw [show ((List.replicate N Blk.free).getD j Blk.dead).live = true from h1] at this; cases this
      · have e1 : st0.slot d = .any := by
          show (args ++ List.replicate (fn.ntmps - args.length) AV.any).getD d .any = _
          rw [List.getD_eq_getElem?_getD, List.getElem?_append_right (by omega)]
          rw [List.getElem?_replicate]; split <;> rfl
        rw [e1]; exact .any
  refine calls_of_wp hf hb (wp_mono (hwp G' _ w ⟨_, hinit⟩) fun e a' w' hq => ?_)
  obtain ⟨st', h1, nu', h2⟩ := hq
  have fin : (∃ xs, resAll Y.P st' fn.results.toList = some xs ∧ r.v = tuple xs) → a'.defers = [] ∧ ∃ v, (results fn a'.tmps).run Y.P w' = .ok v w' ∧ ∃ u, Ending.returned v = .returned u ∧ Post G blks nu w r u w' := by
    rintro ⟨xs, h3, h4⟩
    obtain ⟨v, h5, h6⟩ := results_run (Y := Y) h2 h3
    obtain ⟨m1, m2⟩ := hm.step (w' := w') (blks' := blks) (nu' := nu) (fun _ => False) (fun _ _ h => h) (fun b hb _ => h2.mem.block b hb (fun h => h)) h2.mem.size h2.mem.os h2.mem.tape h2.mem.output (fun _ _ => rfl) (fun _ _ => rfl)
      (fun _ _ h => h.elim) (fun _ _ _ h => h.elim) (fun _ _ _ _ _ _ h => h.elim)
    refine ⟨h2.defers, v, h5, v, rfl, nu, by rw [hbs]; exact m1, by rw [hbs]; exact m2, ?_⟩
    rw [h4] at hrc ⊢
    rw [hbs]
    exact Rd.change (C := cx G' st'.blks nu' w') (C' := cx G blks nu w') (p := fun _ => true) (fun a v hl hcv => ⟨hcv, fun hl' => hl (Or.inl hl')⟩) (fun j u hj => by cases hj) h6 hrc
  cases e with
  | ret => exact fin h1
  | normal => exact fin h1
  | exit id => exact h1.elim
  | goto l => exact h1.elim
  | panic ch => exact h1.elim
  | outgrown => exact h1.elim

end Go.Proofs.Ytfmcmcbckhmfaaa.Ab
