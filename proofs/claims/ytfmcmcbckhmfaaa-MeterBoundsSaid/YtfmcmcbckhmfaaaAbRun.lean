/-
  All operations under one name; a region, in the order of the text, and in whatever order its edges allow.
-/
import Derived.Test.YtfmcmcbckhmfaaaAbEq
import Derived.Orders
namespace Go.Proofs.Ytfmcmcbckhmfaaa.Ab
open Go Go.RowKit

def loadRes (t : Bool) (n : Nat) (l : List AV) : Option Res :=
  if (l.take n).length = n ∧ (t = true ∨ n = 1) then some ⟨[], readAs t (l.take n), []⟩ else none

/-- The values of operands that are known outright. -/
def vals : List AV → Option (List Value)
  | [] => some []
  | .val v :: l => (vals l).map (v :: ·)
  | _ => none

theorem vals_spec : ∀ (l : List AV) (us : List Value), vals l = some us → l = us.map .val
  | [], us, h => by simp only [vals, Option.some.injEq] at h; subst h; rfl
  | x :: l, us, h => by
    cases x <;> simp only [vals, reduceCtorEq] at h
    case val v =>
      cases hr : vals l with
      | none => rw [hr] at h; cases h
      | some us' =>
        rw [hr] at h
        simp only [Option.map_some, Option.some.injEq] at h
        subst h
        simp [vals_spec l us' hr]

/-- The list that a slice value reads as, where it is known. -/
def slOf (bk : Nat → Blk) : AV → Option Sl
  | .sl s => some s
  | .own j => match bk j with
    | .rows _ s => some s
    | .pub s => some s
    | _ => none
  | _ => none

structure Env where
  P : Program
  sp : FuncId → Option Spec

def absArith (V : Env) (op : BinOp) (T : TypeId) (x y : Operand) (u v : Value) : Option Res :=
  match op, u, v with
  | .add, .string a, .string b => some ⟨[a.size + b.size ≤ 9223372036854775807], .s (a ++ b), []⟩
  | .quo, .int k a, .int k' b => if k = k' then some ⟨[b ≠ 0], .val (.int k (k.wrap (a.tdiv b))), []⟩ else none
  | .rem, .int k a, .int k' b => if k = k' then some ⟨[b ≠ 0], .val (.int k (a.tmod b)), []⟩ else none
  | _, _, _ => (pureVal V.P (do eqGuard op T x y u v; binOp op T u v)).map fun r => ⟨[], .val r, []⟩

def absOp (V : Env) (id : Nat) (g : Operand → AV) (bk : Nat → Blk) (o : Oper) : Option Res :=
  match o.op with
  | .move x => some ⟨[], g x, []⟩
  | .assign x => some ⟨[], g x, []⟩
  | .alloc T => match bk id, pureVal V.P (zeroValue T) with
    | .free, some z => some ⟨[], .ptr id 0, [(id, .cells T (z.cells.toList.map .val))]⟩
    | _, _ => none
  | .box T x => match bk id, cellsOf (g x) with
    | .free, some cs => some ⟨[], .ptr id 0, [(id, .cells T cs)]⟩
    | _, _ => none
  | .build T parts => match places V.P T with
    | some (pl, z) => (absFill pl (z.cells.toList.map .val) (parts.toList.map fun p => (p.1, g p.2))).map fun cs => ⟨[], .agg cs, []⟩
    | none => none
  | .load T x => match pureVal V.P (isAgg T), pureVal V.P (sizeOf T) with
    | some t, some n => match g x with
      | .ptr j off => match bk j with
        | .cells _ cs => loadRes t n (cs.drop off)
        | _ => none
      | .eptr s k off => loadRes t n ((s.row k).drop off)
      | _ => none
    | _, _ => none
  | .store T x y => match pureVal V.P (sizeOf T), g x with
    | some n, .ptr j off => match bk j with
      | .cells U cs => if (cellsAt (g y)).all (one bk) = true ∧ (cellsAt (g y)).length = n ∧ off + n ≤ cs.length then some ⟨[], .any, [(j, .cells U (cs.take off ++ cellsAt (g y) ++ cs.drop (off + n)))]⟩ else none
      | _ => none
    | _, _ => none
  | .nilCheck x => match g x with
    | .ptr j off => some ⟨[], .ptr j off, []⟩
    | .eptr s k off => some ⟨[], .eptr s k off, []⟩
    | _ => none
  | .fieldAddr T x f => match fieldOff V.P T f, g x with
    | some d, .ptr j off => some ⟨[], .ptr j (off + d.1), []⟩
    | some d, .eptr s k off => some ⟨[], .eptr s k (off + d.1), []⟩
    | _, _ => none
  | .field T x f => match fieldOff V.P T f, g x with
    | some d, .agg cs => match pureVal V.P (isAgg d.2), pureVal V.P (sizeOf d.2) with
      | some t, some n => loadRes t n (cs.drop d.1)
      | _, _ => none
    | _, _ => none
  | .indexAddr T x y => match V.P.underlying T, g x, g y with
    | some (.slice E), .sl s, .val (.int _ i) => match pureVal V.P (sizeOf E) with
      | some n => if n = s.sz then some ⟨[0 ≤ i ∧ i < s.len], .eptr s i.toNat 0, []⟩ else none
      | none => none
    | some (.slice E), .own j, .val (.int _ i) => match bk j with
      | .pub s => match pureVal V.P (sizeOf E) with
        | some n => if n = s.sz then some ⟨[0 ≤ i ∧ i < s.len], .eptr s i.toNat 0, []⟩ else none
        | none => none
      | _ => none
    | some (.array len E), .ptr j off, .val (.int _ i) => match pureVal V.P (sizeOf E) with
      | some n => if 0 ≤ i ∧ i < len then some ⟨[], .ptr j (off + i.toNat * n), []⟩ else none
      | none => none
    | _, _, _ => none
  | .index T x y => match V.P.underlying T, g x, g y with
    | some (.array len E), .agg cs, .val (.int _ i) => match pureVal V.P (isAgg E), pureVal V.P (sizeOf E) with
      | some t, some n => if 0 ≤ i ∧ i < len then loadRes t n (cs.drop (i.toNat * n)) else none
      | _, _ => none
    | _, _, _ => none
  | .extract x i => match g x with
    | .tup cs => match cs[i]? with
      | some c => some ⟨[], c, []⟩
      | none => none
    | _ => none
  | .binOp op T x y _ => match g x, g y with
    | .val u, .val v => absArith V op T x y u v
    | .agg xs, .agg ys => if (op = .eql ∨ op = .neq) ∧ V.P.eqGuardType V.P.depth T = false then
        match eqT V.P 8 T (.agg xs) (.agg ys) with
        | some b => some ⟨[], .b (if op = .eql then b else !b), []⟩
        | none => none
      else none
    | _, _ => none
  | .unOp op _ x => match g x with
    | .val u => (pureVal V.P (Op.unary op u)).map fun r => ⟨[], .val r, []⟩
    | _ => none
  | .convert T U x => match g x with
    | .val u => (pureVal V.P (convert T U u)).map fun r => ⟨[], .val r, []⟩
    | _ => none
  | .makeFunc (.func f) ⟨[]⟩ caps => some ⟨[], .fn f (caps.toList.map g), []⟩
  | .call c => match c with
    | { callee := .builtin b, args := xs, argTypes := ats } => match vals (xs.toList.map g) with
      | some us => match pureVal V.P (builtin b ats o.type (xs.map fun | .const _ => true | _ => false) us.toArray) with
        | some (.value r) => some ⟨[], .val r, []⟩
        | _ => none
      | none => match b, xs with
        | .len, ⟨[x]⟩ => match slOf bk (g x), ats[0]? with
          | some s, some T => match V.P.underlying T with
            | some (.slice _) => some ⟨[], .i s.len, []⟩
            | _ => none
          | _, _ => none
        | _, _ => none
    | { callee := .value y, args := xs, .. } => match g y with
      | .fn f caps => if entered V.P f = true then match V.sp f with
          | some F => F (xs.toList.map g ++ caps) bk
          | none => none
        else none
      | _ => none
    | _ => none
  | _ => none

def Env.Ok (V : Env) : Prop := ∀ f F, V.sp f = some F → SpecOk V.P f F

section sound
variable {V : Env} (hV : V.Ok) {G : Gl} {blks : List Blk} {nu : Nat → Option Value} {w : World} (h : MInv G blks nu w)
include h

theorem pub_sl {j : Nat} {s : Sl} {v : Value} (hb : blks.getD j .dead = .pub s) (hv : Rd (cx G blks nu w) (.own j) v) : Rd (cx G blks nu w) (.sl s) v := by
  cases hv with
  | own hn =>
    have hk := h.ok j
    rw [hb] at hk
    obtain ⟨u, e1, e2⟩ := hk
    have := hn.symm.trans e1
    simp at this; subst this
    exact e2

omit h in
theorem of_bk {bk : Nat → Blk} (hbk : ∀ j, bk j = blks.getD j .dead ∨ bk j = .dead) {j : Nat} {x : Blk} (hx : bk j = x) (hd : x ≠ .dead) : blks.getD j .dead = x := by
  rcases hbk j with e | e
  · rw [← e]; exact hx
  · exact absurd (hx.symm.trans e) hd

omit h in
theorem one_bk {bk : Nat → Blk} (hbk : ∀ j, bk j = blks.getD j .dead ∨ bk j = .dead) {l : List AV} (hl : l.all (one bk) = true) : l.all (one fun j => blks.getD j .dead) = true := by
  rw [List.all_eq_true] at hl ⊢
  intro x hx
  have h1 := hl x hx
  cases x <;> try exact h1
  case own j =>
    simp only [one] at h1 ⊢
    cases hb : bk j <;> simp only [hb, Bool.false_eq_true] at h1
    · rw [of_bk hbk hb (by simp)]
    · rw [of_bk hbk hb (by simp)]

omit h in
theorem slOf_len {bk : Nat → Blk} (hbk : ∀ j, bk j = blks.getD j .dead ∨ bk j = .dead) {x : AV} {s : Sl} (hs : slOf bk x = some s) :
    x = .sl s ∨ ∃ j F, x = .own j ∧ (blks.getD j .dead = .rows F s ∨ blks.getD j .dead = .pub s) := by
  cases x <;> simp only [slOf, Option.some.injEq, reduceCtorEq] at hs
  case sl s' => subst hs; exact .inl rfl
  case own j =>
    cases hb : bk j <;> simp only [hb, Option.some.injEq, reduceCtorEq] at hs
    case rows F s' => subst hs; exact .inr ⟨j, F, rfl, .inl (of_bk hbk hb (by simp))⟩
    case pub s' => subst hs; exact .inr ⟨j, 0, rfl, .inr (of_bk hbk hb (by simp))⟩

theorem absArith_sound {o : Oper} {op : BinOp} {T U : TypeId} {x y : Operand} {e : Operand → Value} {u v : Value} {r : Res} (ho : o.op = .binOp op T x y U)
    (hx : Rd (cx G blks nu w) (.val u) (e x)) (hy : Rd (cx G blks nu w) (.val v) (e y)) (hr : absArith V op T x y u v = some r) (hobl : AllP r.obl) : Does V.P o e w (Post G blks nu w r) := by
  have dflt : ((pureVal V.P (do eqGuard op T x y u v; binOp op T u v)).map fun r => (⟨[], .val r, []⟩ : Res)) = some r → Does V.P o e w (Post G blks nu w r) := by
    intro hr
    cases hp : pureVal V.P (do eqGuard op T x y u v; binOp op T u v) with
    | none => rw [hp] at hr; cases hr
    | some q =>
      rw [hp] at hr
      simp only [Option.map_some, Option.some.injEq] at hr
      subst hr
      exact does_binOp h ho hx hy hp
  unfold absArith at hr
  split at hr
  · simp only [Option.some.injEq] at hr
    subst hr
    exact does_concat h ho hx hy hobl.1
  · split at hr
    · rename_i hk
      subst hk
      simp only [Option.some.injEq] at hr; subst hr
      exact does_quo h ho hx hy hobl.1 _
    · cases hr
  · split at hr
    · rename_i hk
      subst hk
      simp only [Option.some.injEq] at hr; subst hr
      exact does_rem h ho hx hy hobl.1 _
    · cases hr
  · exact dflt hr

omit h in
theorem loadRes_spec {t : Bool} {n : Nat} {l : List AV} {r : Res} (hr : loadRes t n l = some r) : (l.take n).length = n ∧ (t = false → n = 1) ∧ r = ⟨[], readAs t (l.take n), []⟩ := by
  unfold loadRes at hr
  split at hr
  · rename_i hc
    refine ⟨hc.1, fun ht => hc.2.resolve_left (by simp [ht]), by simpa using hr.symm⟩
  · cases hr

include hV in
theorem absOp_sound {id : Nat} {g : Operand → AV} {o : Oper} {e : Operand → Value} {r : Res} {bk : Nat → Blk} (hbk : ∀ j, bk j = blks.getD j .dead ∨ bk j = .dead) (hg : ∀ x, Rd (cx G blks nu w) (g x) (e x))
    (hr : absOp V id g bk o = some r) (hobl : AllP r.obl) : Does V.P o e w (Post G blks nu w r) := by
  unfold absOp at hr
  split at hr
  · rename_i x ho
    simp only [Option.some.injEq] at hr; subst hr
    exact does_move h (.inl ho) (hg x)
  · rename_i x ho
    simp only [Option.some.injEq] at hr; subst hr
    exact does_move h (.inr ho) (hg x)
  · rename_i T ho
    split at hr
    · rename_i z hf hz
      simp only [Option.some.injEq] at hr; subst hr
      exact does_alloc h ho hz (of_bk hbk hf (by simp))
    · cases hr
  · rename_i T x ho
    split at hr
    · rename_i cs hf hc
      simp only [Option.some.injEq] at hr; subst hr
      exact does_box h ho (hg x) hc (of_bk hbk hf (by simp))
    · cases hr
  · rename_i T parts ho
    split at hr
    · rename_i pl z hp
      cases hc : absFill pl (z.cells.toList.map .val) (parts.toList.map fun p => (p.1, g p.2)) with
      | none => rw [hc] at hr; cases hr
      | some cs =>
        rw [hc] at hr
        simp only [Option.map_some, Option.some.injEq] at hr; subst hr
        exact does_build h ho hg hp hc
    · cases hr
  · rename_i T x ho
    split at hr
    · rename_i t n ht hn
      split at hr
      · rename_i j off hgx
        split at hr
        · rename_i U cs hb
          obtain ⟨h1, h2, rfl⟩ := loadRes_spec hr
          exact does_load_ptr h ho (hgx ▸ hg x) (of_bk hbk hb (by simp)) ht hn h2 h1
        · cases hr
      · rename_i s k off hgx
        obtain ⟨h1, h2, rfl⟩ := loadRes_spec hr
        exact does_load_eptr h ho (hgx ▸ hg x) ht hn h2 h1
      · cases hr
    · cases hr
  · rename_i T x y ho
    split at hr
    · rename_i n j off hn hgx
      split at hr
      · rename_i U cs hb
        split at hr
        · rename_i hc
          simp only [Option.some.injEq] at hr; subst hr
          exact does_store h ho (hgx ▸ hg x) (hg y) (of_bk hbk hb (by simp)) hn (one_bk hbk hc.1) hc.2.1 hc.2.2
        · cases hr
      · cases hr
    · cases hr
  · rename_i x ho
    split at hr
    · rename_i j off hgx
      simp only [Option.some.injEq] at hr; subst hr
      exact does_nilCheck h ho (hgx ▸ hg x) (.inl ⟨_, _, rfl⟩)
    · rename_i s k off hgx
      simp only [Option.some.injEq] at hr; subst hr
      exact does_nilCheck h ho (hgx ▸ hg x) (.inr ⟨_, _, _, rfl⟩)
    · cases hr
  · rename_i T x f ho
    split at hr
    · rename_i d j off hd hgx
      simp only [Option.some.injEq] at hr; subst hr
      exact does_fieldAddr h ho (hgx ▸ hg x) hd (.inl ⟨_, _, rfl, rfl⟩)
    · rename_i d s k off hd hgx
      simp only [Option.some.injEq] at hr; subst hr
      exact does_fieldAddr h ho (hgx ▸ hg x) hd (.inr ⟨_, _, _, rfl, rfl⟩)
    · cases hr
  · rename_i T x f ho
    split at hr
    · rename_i d cs hd hgx
      split at hr
      · rename_i t n ht hn
        obtain ⟨h1, h2, rfl⟩ := loadRes_spec hr
        exact does_field h ho (hgx ▸ hg x) hd ht hn h2 h1
      · cases hr
    · cases hr
  · rename_i T x y ho
    split at hr
    · rename_i E s k i hT hgx hgy
      split at hr
      · rename_i n hn
        split at hr
        · rename_i hs
          subst hs
          simp only [Option.some.injEq] at hr; subst hr
          exact does_indexAddr h ho (hgx ▸ hg x) (hgy ▸ hg y) hT hn hobl.1
        · cases hr
      · cases hr
    · rename_i E j k i hT hgx hgy
      split at hr
      · rename_i s hb
        split at hr
        · rename_i n hn
          split at hr
          · rename_i hs
            subst hs
            simp only [Option.some.injEq] at hr; subst hr
            exact does_indexAddr h ho (pub_sl h (of_bk hbk hb (by simp)) (hgx ▸ hg x)) (hgy ▸ hg y) hT hn hobl.1
          · cases hr
        · cases hr
      · cases hr
    · rename_i len E j off k i hT hgx hgy
      split at hr
      · rename_i n hn
        split at hr
        · rename_i hi
          simp only [Option.some.injEq] at hr; subst hr
          exact does_indexArr h ho (hgx ▸ hg x) (hgy ▸ hg y) hT hn hi
        · cases hr
      · cases hr
    · cases hr
  · rename_i T x y ho
    split at hr
    · rename_i len E cs k i hT hgx hgy
      split at hr
      · rename_i t n ht hn
        split at hr
        · rename_i hi
          obtain ⟨h1, h2, rfl⟩ := loadRes_spec hr
          exact does_indexVal h ho (hgx ▸ hg x) (hgy ▸ hg y) hT ht hn hi h2 h1
        · cases hr
      · cases hr
    · cases hr
  · rename_i x i ho
    split at hr
    · rename_i cs hgx
      split at hr
      · rename_i c hc
        simp only [Option.some.injEq] at hr; subst hr
        exact does_extract h ho (hgx ▸ hg x) hc
      · cases hr
    · cases hr
  · rename_i op T x y U ho
    split at hr
    · rename_i u v hgx hgy
      exact absArith_sound h ho (hgx ▸ hg x) (hgy ▸ hg y) hr hobl
    · rename_i xs ys hgx hgy
      split at hr
      · rename_i hc
        split at hr
        · rename_i b hb
          simp only [Option.some.injEq] at hr; subst hr
          exact does_eqAgg h hc.1 ho (hgx ▸ hg x) (hgy ▸ hg y) hc.2 hb
        · cases hr
      · cases hr
    · cases hr
  · rename_i op T x ho
    split at hr
    · rename_i u hgx
      cases hp : pureVal V.P (Op.unary op u) with
      | none => rw [hp] at hr; cases hr
      | some q =>
        rw [hp] at hr
        simp only [Option.map_some, Option.some.injEq] at hr; subst hr
        exact does_unOp h ho (hgx ▸ hg x) hp
    · cases hr
  · rename_i T U x ho
    split at hr
    · rename_i u hgx
      cases hp : pureVal V.P (convert T U u) with
      | none => rw [hp] at hr; cases hr
      | some q =>
        rw [hp] at hr
        simp only [Option.map_some, Option.some.injEq] at hr; subst hr
        exact does_convert h ho (hgx ▸ hg x) hp
    · cases hr
  · rename_i f caps ho
    simp only [Option.some.injEq] at hr; subst hr
    exact does_makeFunc h ho hg
  · rename_i c ho
    split at hr
    · rename_i b xs ats
      split at hr
      · rename_i us hus
        split at hr
        · rename_i q hq
          simp only [Option.some.injEq] at hr; subst hr
          exact does_builtin h ho hg (vals_spec _ _ hus) hq
        · cases hr
      · split at hr
        · split at hr
          · rename_i s T hs ha
            split at hr
            · rename_i E hT
              simp only [Option.some.injEq] at hr; subst hr
              exact does_len h ho ha hT (hg _) (slOf_len hbk hs)
            · cases hr
          · cases hr
        · cases hr
    · rename_i y xs ats
      split at hr
      · rename_i f caps hy
        split at hr
        · rename_i hf
          split at hr
          · rename_i F hF
            exact does_call h hbk ho hg hy hf (hV f F hF) hr hobl
          · cases hr
        · cases hr
      · cases hr
    · cases hr
  · cases hr

end sound

end Go.Proofs.Ytfmcmcbckhmfaaa.Ab
