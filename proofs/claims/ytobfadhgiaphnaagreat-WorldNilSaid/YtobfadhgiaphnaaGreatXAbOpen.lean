/-
  The walk over abstract states.
-/
import Derived.Test.YtobfadhgiaphnaaGreatXAbFun
import Derived.Test.YtobfadhgiaphnaaGreatXAbStructs
import Derived.IntWalk
import Derived.OpenShut
import Derived.SizedLaws
import Derived.WideShapes
namespace Go.Proofs.YtobfadhgiaphnaaGreat.Ab
open Go Go.RowKit Go.WideShapes Go.ChangeShapes Go.ChangeAt
set_option linter.unusedSimpArgs false
set_option linter.unusedVariables false
def i64 (x : Int) : Prop := -9223372036854775808 ≤ x ∧ x ≤ 9223372036854775807
def Wt {H : Type} (R : Nat) (P : Program) (T : TypeId) (d : DataW H) : Prop := ∀ n, n ∈ d.weights P T → n ≤ R
def zeg (R : Nat) (P : Program) (T : TypeId) {α : Type} (e : α → List AV) (ok : α → Prop) : Prop :=
 ∀ (H : Type) (enc : TypeId × Value → H) (w : World) (base : Nat) (spare : Nat → Bool) (held : Bool) (fuel : Nat) (cs : List Value) (x : DataW H × List MemPlace),
  DataW.trod enc P w base spare held fuel T cs = some x → Wt R P T x.1 → ∀ C : Cx, C.w = w → (∀ b, ¬ C.L b) → ∃ a, Rds C (e a) cs ∧ ok a
theorem zk7 {C : Cx} {x : AV} {v : Value} (h : Rd C x v) : Rds C [x] [v] := .cons h .nil
theorem zo2 {R : Nat} {P : Program} {T : TypeId} (hT : P.underlying T = some (.int .i64)) : zeg R P T (fun n : Int => [.i n]) i64 := by
 intro H enc w base spare held fuel cs x h _ C _ _
 obtain ⟨n, rfl, _, hw⟩ := DataW.trod_int hT h
 refine ⟨n, zk7 .val, ?_⟩
 simp only [Lit.wf, Bool.and_eq_true, decide_eq_true_eq] at hw
 have e1 : IntKind.i64.min = -9223372036854775808 := by decide
 have e2 : IntKind.i64.max = 9223372036854775807 := by decide
 rw [e1, e2] at hw
 exact hw
theorem zo3 {R : Nat} {P : Program} {T : TypeId} (hT : P.underlying T = some .bool) : zeg R P T (fun n : Bool => [.b n]) (fun _ => True) := by
 intro H enc w base spare held fuel cs x h _ C _ _
 obtain ⟨n, rfl, _⟩ := DataW.trod_bool hT h
 exact ⟨n, zk7 .val, trivial⟩
def zh9 (R : Nat) (P : Program) (fs : List Field) (off : Nat) {α : Type} (e : α → List AV) (ok : α → Prop) : Prop :=
 ∀ (H : Type) (enc : TypeId × Value → H) (w : World) (base : Nat) (spare : Nat → Bool) (held : Bool) (fuel : Nat) (cs : List Value) (xs : List (DataW H × List MemPlace)),
  (fs.mapM fun f => DataW.trod enc P w base spare held fuel f.type ((cs.drop f.offset).take (P.cellsOf f.type))) = some xs → off + (fs.map fun f => P.cellsOf f.type).sum = cs.length →
  (∀ n, n ∈ DataW.weightsEach P (fs.map (·.type)) (xs.map (·.1)) → n ≤ R) → ∀ C : Cx, C.w = w → (∀ b, ¬ C.L b) → ∃ a, Rds C (e a) (cs.drop off) ∧ ok a
theorem zke {R : Nat} {P : Program} {off : Nat} : zh9 R P [] off (fun _ : Unit => []) (fun _ => True) := by
 intro H enc w base spare held fuel cs xs _ hl _ C _ _
 refine ⟨(), ?_, trivial⟩
 have : cs.drop off = [] := List.drop_eq_nil_of_le (by simp at hl; omega)
 rw [this]; exact .nil
theorem zi1 {R : Nat} {P : Program} {f : Field} {fs : List Field} {off : Nat} {α β : Type} {e : α → List AV} {ok : α → Prop} {e' : β → List AV} {ok' : β → Prop} (hoff : f.offset = off)
  (h : zeg R P f.type e ok) (k : zh9 R P fs (off + P.cellsOf f.type) e' ok') : zh9 R P (f :: fs) off (fun ab : α × β => e ab.1 ++ e' ab.2) (fun ab => ok ab.1 ∧ ok' ab.2) := by
 intro H enc w base spare held fuel cs xs hm hl hwt C hC hL
 rw [List.mapM_cons] at hm
 simp only [bind, Option.bind_eq_some_iff, pure, Option.some.injEq] at hm
 obtain ⟨x, h1, xs', h2, rfl⟩ := hm
 subst hoff
 obtain ⟨a, ha, oa⟩ := h H enc w base spare held fuel _ x h1 (fun n hn => hwt n (by simp only [List.map_cons, DataW.weightsEach, List.mem_append]; exact .inl hn)) C hC hL
 obtain ⟨b, hb, ob⟩ := k H enc w base spare held fuel cs xs' h2 (by simp at hl; omega) (fun n hn => hwt n (by simp only [List.map_cons, DataW.weightsEach, List.mem_append]; exact .inr hn)) C hC hL
 refine ⟨(a, b), ?_, oa, ob⟩
 have : cs.drop f.offset = (cs.drop f.offset).take (P.cellsOf f.type) ++ cs.drop (f.offset + P.cellsOf f.type) := by
  rw [← List.drop_drop, List.take_append_drop]
 rw [this]
 exact ha.append hb
theorem zi2 {R : Nat} {P : Program} {T : TypeId} {fs : Array Field} {α : Type} {e : α → List AV} {ok : α → Prop} (hT : P.underlying T = some (.struct fs)) (hs : (fs.toList.map fun f => P.cellsOf f.type).sum = P.cellsOf T)
  (h : zh9 R P fs.toList 0 e ok) : zeg R P T e ok := by
 intro H enc w base spare held fuel cs x hx hwt C hC hL
 cases fuel with
 | zero => cases hx
 | succ fuel =>
  simp only [DataW.trod, hT] at hx
  split at hx
  ·rename_i hl
   cases hm : (fs.toList.mapM fun f => DataW.trod enc P w base spare held fuel f.type ((cs.drop f.offset).take (P.cellsOf f.type))) with
   | none => simp [hm] at hx
   | some xs =>
    simp only [hm, Option.map_some, Option.some.injEq] at hx
    subst hx
    obtain ⟨a, h1, h2⟩ := h H enc w base spare held fuel cs xs hm (by rw [hs]; omega) (fun n hn => hwt n (by simp only [DataW.weights, hT]; exact hn)) C hC hL
    exact ⟨a, by simpa using h1, h2⟩
  ·cases hx
def zgu (P : Program) (T : TypeId) : Option (List (Nat × TypeId)) :=
 match P.underlying T with
 | some (.struct fs) => some (fs.toList.map fun f => (f.offset, f.type))
 | _ => none
def zjt (R : Nat) (P : Program) (ts : List (Nat × TypeId)) (off : Nat) {α : Type} (e : α → List AV) (ok : α → Prop) : Prop :=
 ∀ fs : List Field, (fs.map fun f => (f.offset, f.type)) = ts → zh9 R P fs off e ok
theorem zkf {R : Nat} {P : Program} {off : Nat} : zjt R P [] off (fun _ : Unit => []) (fun _ => True) := by
 intro fs h
 cases fs with
 | nil => exact zke
 | cons f fs => cases h
theorem zaz {R : Nat} {P : Program} {ts : List (Nat × TypeId)} {off c : Nat} {t : TypeId} {α β : Type} {e : α → List AV} {ok : α → Prop} {e' : β → List AV} {ok' : β → Prop} (hc : P.cellsOf t = c)
  (h : zeg R P t e ok) (k : zjt R P ts (off + c) e' ok') : zjt R P ((off, t) :: ts) off (fun ab : α × β => e ab.1 ++ e' ab.2) (fun ab => ok ab.1 ∧ ok' ab.2) := by
 intro fs hfs
 cases fs with
 | nil => cases hfs
 | cons f fs =>
  simp only [List.map_cons, List.cons.injEq, Prod.mk.injEq] at hfs
  obtain ⟨⟨h1, h2⟩, h3⟩ := hfs
  subst h2
  exact zi1 h1 h (by rw [hc]; exact k fs h3)
theorem zi3 {R : Nat} {P : Program} {T : TypeId} (ts : List (Nat × TypeId)) {α : Type} {e : α → List AV} {ok : α → Prop} (hT : zgu P T = some ts) (hs : (ts.map fun f => P.cellsOf f.2).sum = P.cellsOf T)
  (h : zjt R P ts 0 e ok) : zeg R P T e ok := by
 unfold zgu at hT
 split at hT
 ·rename_i fs hu
  simp only [Option.some.injEq] at hT
  refine zi2 hu ?_ (h _ hT)
  rw [← hs, ← hT, List.map_map]
  rfl
 ·cases hT
theorem zmc {R : Nat} {P : Program} {T : TypeId} {α β : Type} {e : α → List AV} {ok : α → Prop} {e' : β → List AV} {ok' : β → Prop} (h : zeg R P T e ok) (f : α → β) (he : ∀ a, e' (f a) = e a) (hok : ∀ a, ok a → ok' (f a)) : zeg R P T e' ok' := by
 intro H enc w base spare held fuel cs x hx hwt C hC hL
 obtain ⟨a, h1, h2⟩ := h H enc w base spare held fuel cs x hx hwt C hC hL
 exact ⟨f a, by rw [he]; exact h1, hok a h2⟩
def zn2 (R : Nat) (P : Program) (T : TypeId) {α : Type} (e : α → AV) (ok : α → Prop) : Prop :=
 ∀ (H : Type) (enc : TypeId × Value → H) (w : World) (base : Nat) (spare : Nat → Bool) (held : Bool) (v : Value) (d : DataW H) (ps : List MemPlace),
  Value.okWide P w .any base T v → DataW.Trod enc P w 0 spare held T v d ps → Wt R P T d → ∀ C : Cx, C.w = w → (∀ b, ¬ C.L b) → ∃ a, Rd C (e a) v ∧ ok a
theorem zk8 {R : Nat} {P : Program} {T : TypeId} {α : Type} {x : α → AV} {ok : α → Prop} (h : zeg R P T (fun a => [x a]) ok) (hT : ∃ d, P.underlying T = some d ∧ (d matches .struct _ | .array _ _) = false) : zn2 R P T x ok := by
 intro H enc w base spare held v d ps hok ht hwt C hC hL
 obtain ⟨fuel, hf⟩ := ht
 obtain ⟨a, h1, h2⟩ := h H enc w 0 spare held fuel _ _ hf hwt C hC hL
 refine ⟨a, ?_, h2⟩
 have hv : v.cells = #[v] := by
  obtain ⟨d, hd, hn⟩ := hT
  unfold Value.okWide at hok
  rw [hd] at hok
  cases v <;> try rfl
  exfalso
  cases d <;> simp_all [Cell.okWide, Cell.ok]
 rw [hv] at h1
 have := h1.2 0 (by simp)
 simpa using this
theorem zk9 {R : Nat} {P : Program} {T : TypeId} {α : Type} {e : α → List AV} {ok : α → Prop} (h : zeg R P T e ok) (hT : ∃ fs, P.underlying T = some (.struct fs)) : zn2 R P T (fun a => .agg (e a)) ok := by
 intro H enc w base spare held v d ps hok ht hwt C hC hL
 obtain ⟨fuel, hf⟩ := ht
 obtain ⟨a, h1, h2⟩ := h H enc w 0 spare held fuel _ _ hf hwt C hC hL
 obtain ⟨fs, hfs⟩ := hT
 unfold Value.okWide at hok
 rw [hfs] at hok
 obtain ⟨cs, rfl, _⟩ := hok
 refine ⟨a, ?_, h2⟩
 have : Rd C (.agg (e a)) (.agg cs.toList.toArray) := .agg h1.1 h1.2
 simpa using this
theorem zmd {R : Nat} {P : Program} {T : TypeId} {α : Type} {e : α → List AV} {ok : α → Prop} (h : zeg R P T e ok) (hT : (P.underlying T matches some (.struct _)) = true) : zn2 R P T (fun a => .agg (e a)) ok := by
 refine zk9 h ?_
 split at hT
 ·rename_i fs hu; exact ⟨fs, hu⟩
 ·cases hT
theorem zeh {H : Type} {enc : TypeId × Value → H} {P : Program} (hl : laidOutB P = true) {W W' : World} (hb : Below W.heap.size W W') {sp : Nat → Bool} : ∀ {ts : List TypeId} {vs : List Value} {ds : List (DataW H)} {ps : List MemPlace},
  (∀ t, t ∈ ts → P.readableRec t = true ∧ t < P.types.size) → (∀ x, x ∈ ps → x.block < W.heap.size ∧ sp x.block = true) → DataW.TrodAll enc P W 0 (fun _ => true) true ts vs ds ps → DataW.TrodAll enc P W' 0 sp true ts vs ds ps
 | [], [], [], ps, _, _, h => h
 | [], [], _ :: _, ps, _, _, h => by simp [DataW.TrodAll] at h
 | [], _ :: _, _, ps, _, _, h => by simp [DataW.TrodAll] at h
 | _ :: _, [], _, ps, _, _, h => by simp [DataW.TrodAll] at h
 | _ :: _, _ :: _, [], ps, _, _, h => by simp [DataW.TrodAll] at h
 | t :: ts, v :: vs, d :: ds, ps, ht, hlt, h => by
  obtain ⟨p, q, h1, h2, rfl⟩ := h
  obtain ⟨hr, hn⟩ := ht t (by simp)
  exact ⟨p, q, WideElems.Trod_stays hl hr hn h1 (fun x hx => hb.same (hlt x (by simp [hx])).1) (fun x hx => (hlt x (by simp [hx])).2), zeh hl hb (fun t ht' => ht t (by simp [ht'])) (fun x hx => hlt x (by simp [hx])) h2, rfl⟩
section
variable {H : Type} {enc : TypeId × Value → H} {P : Program}
theorem zhc {f : Func} {s : ChangeSpec} {apart fresh handsOn again : Bool} {W W' : World} {args : Array Value} {v : Value} {ds gs : List (DataW H)} {before pa pv : List MemPlace}
  (hW : DataW.Whole enc P f.params.toList s.vars apart W args.toList ds gs before)
  (hres : ∀ (b : Nat) (sp : Nat → Bool) (hd : Bool), DataW.TrodAll enc P W' b sp hd f.resultTypes.toList (v.resultList f.resultTypes.size) (s.fn H (ds ++ gs)).results [])
  (hargs : ∀ sp : Nat → Bool, (∀ p ∈ before, sp p.block = true) → DataW.TrodAll enc P W' 0 sp true f.params.toList args.toList (s.fn H (ds ++ gs)).args pa)
  (hvars : ∀ sp : Nat → Bool, (∀ p ∈ before, sp p.block = true) → DataW.TrodVars enc P W' sp s.vars (s.fn H (ds ++ gs)).vars pv)
  (hps : before = pa ++ pv) (hb : Below W.heap.size W W')
  (hok : ∀ (j : Nat) (t : TypeId) (r : Value), f.resultTypes[j]? = some t → (v.resultList f.resultTypes.size)[j]? = some r → Value.okWide P W' .any 0 t r) :
  s.post enc P f apart fresh handsOn again W args v W' := by
 have hlt : ∀ p ∈ before, p.block < W.heap.size := fun p hp => hW.lt p hp
 have hold : ∀ p ∈ before, (fun b => decide (b < W.heap.size)) p.block = true := fun p hp => by simpa using hlt p hp
 refine ⟨ds, gs, before, [], pa, pv, hW, hres _ _ _, hargs _ hold, hvars _ hold, World.keptBut_mono (fun p hp => ⟨hp, ?_⟩) (hb.frame (· ∈ before)), fun _ => ?_⟩
 ·rw [hps, List.mem_append] at hp
  exact Or.inr hp
 ·obtain ⟨_, _, _, _, _, hz, hn⟩ := hW
  refine ⟨hok, _, _, ([] ++ pa) ++ pv, ⟨[] ++ pa, pv, trodAll_append (hargs _ (fun _ _ => rfl)) (hres _ _ _), hvars _ (fun _ _ => rfl), rfl, ?_, ?_⟩, ?_⟩
  ·intro b off hp
   have hin : MemPlace.cell b off ∈ before := by rw [hps]; simpa using hp
   rw [hb.frozen (hlt _ hin)]
   exact hz b off hin
  ·intro ha
   have := hn ha
   rw [hps] at this
   simpa using this
  ·intro p hp _
   rw [hps]
   simpa using hp
end
def cx0 (W : World) : Cx := cx ⟨W, fun _ => False, fun _ => False, fun _ h => h.elim, fun _ h => h.elim, fun _ => none⟩ [] (fun _ => none) W
theorem zo4 (W : World) (b : Nat) : ¬ (cx0 W).L b := by
 rintro (h | ⟨j, v, _, h, _⟩)
 ·exact h
 ·cases h
theorem zla {P : Program} {f : FuncId} {F : zo9} (hF : zbd P f F) {W : World} {args : List AV} {vs : List Value} (ha : Rds (cx0 W) args vs) {r : Res} (hr : F args (fun _ => .dead) 0 = some r) (ho : zdr r.obl)
  (hv : r.v = .b true) (hbs : r.bs = []) : Calls P f vs.toArray W fun e W' => e = .returned (.bool true) ∧ Below W.heap.size W W' := by
 have hm : MInv ⟨W, fun _ => False, fun _ => False, fun _ h => h.elim, fun _ h => h.elim, fun _ => none⟩ [] (fun _ => none) W :=
  ⟨fun j => by simp [BlkOk], fun j j' v v' b _ h => by simp [Blk.live] at h, fun j v b h => by simp [Blk.live] at h, rfl, rfl, rfl, Nat.le_refl _, fun _ _ _ => rfl, fun _ _ h => (by cases h)⟩
 refine (hF _ _ _ _ hm args vs ha (fun _ => .dead) (fun j => .inr rfl) 0 r hr ho).mono fun e W' ⟨v, he, nu', h1, h2, h3⟩ => ?_
 rw [hv] at h3
 cases h3
 refine ⟨he, ?_⟩
 rw [hbs] at h2
 exact ⟨h2.os, h2.tape, h2.output, h2.size, fun k hk => h2.block k hk (fun h => h)⟩
theorem zju {α : Type} {l r : List α} {j : Nat} {a : α} (h : l[j]? = some a) : (l ++ r)[j]? = some a := by
 rw [List.getElem?_append_left (List.getElem?_eq_some_iff.1 h).1]; exact h
theorem zme {P : Program} {f : FuncId} {F : SpecT} (hF : zbd P f F.spec) {W : World} {args : List AV} {vs : List Value} (ha : Rds (cx0 W) args vs) {c : CR} (hr : F args (fun _ => .dead) 0 = some c) {r : c.β} (ho : c.o = some r)
  (hv : c.v r = .b true) (hbs : c.bs r = []) : Calls P f vs.toArray W fun e W' => e = .returned (.bool true) ∧ Below W.heap.size W W' :=
 zla hF ha (r := c.res) (by unfold SpecT.spec; rw [hr]) (by rw [zh5 ho]; exact ⟨by rw [ho]; rfl, trivial⟩) (by rw [zh5 ho]; exact hv) (by rw [zh5 ho]; exact hbs)
theorem zmf {H : Type} {enc : TypeId × Value → H} {P : Program} (hl : laidOutB P = true) {f : Func} {s : ChangeSpec} {W W' : World} {args : Array Value} {ds gs : List (DataW H)} {before : List MemPlace} {q : List MemPlace}
  (hW : DataW.Whole enc P f.params.toList s.vars false W args.toList ds gs before) (hA : DataW.TrodAll enc P W 0 (fun _ => true) true f.params.toList args.toList ds q) (hq : before = q) (hvars : s.vars = []) (hgs : (s.fn H (ds ++ gs)).vars = [])
  (hres : f.resultTypes = #[4]) (hb4 : P.underlying 4 = some .bool) (hfn : (s.fn H (ds ++ gs)).results = [.lit (.bool true)]) (hfa : (s.fn H (ds ++ gs)).args = ds)
  (hrd : ∀ t, t ∈ f.params.toList → P.readableRec t = true ∧ t < P.types.size) (hb : Below W.heap.size W W') : s.post enc P f false true false false W args (.bool true) W' := by
 have hlt : ∀ p ∈ before, p.block < W.heap.size := fun p hp => hW.lt p hp
 refine zhc (pa := q) (pv := []) hW (fun b sp hd => ?_) (fun sp hsp => ?_) (fun sp _ => ?_) (by simpa using hq) hb ?_
 ·rw [hfn, hres]
  exact trodAll_cons_mk (shut_bool hb4 _) trodAll_mk0
 ·rw [hfa]
  exact zeh hl hb hrd (fun x hx => ⟨hlt x (hq ▸ hx), hsp x (hq ▸ hx)⟩) hA
 ·rw [hgs, hvars]; rfl
 ·rw [hres]
  intro j t r h1 h2
  cases j with
  | zero => simp [Value.resultList] at h1 h2; subst h1; subst h2; exact okWide_bool_mk hb4 _
  | succ j => simp at h1
