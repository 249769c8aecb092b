/-
  The walk over abstract states.
-/
import Derived.Test.YtobfadhgiaphnaaGreatXAbPub
import Derived.LoopN
namespace Go.Proofs.YtobfadhgiaphnaaGreat.Ab
open Go Go.RowKit
set_option linter.unusedSimpArgs false
set_option linter.unusedVariables false
inductive Tr (α:Type):Type 1 where
 | leaf (x:α):Tr α
 | fail:Tr α
 | guard (p:Prop) (t:Tr α):Tr α
 | ite (b:Bool) (t e:Tr α):Tr α
 | split (p q:Prop) (t e:Tr α):Tr α
 | bind {β:Type} (o:Option β) (f:β→Tr α):Tr α
 | two {β γ:Type} (o:Option (β⊕γ)) (f:β→Tr α) (g:γ→Tr α):Tr α
namespace Tr
variable {α β:Type}
def all (Q:α→Prop):Tr α→Prop
 | .leaf x=>Q x
 | .fail=>False
 | .guard p t=>p∧all Q t
 | .ite b t e=>(b=true→all Q t)∧(b=false→all Q e)
 | .split p q t e=>(p→all Q t)∧(q→all Q e)
 | .bind o f=>∃ v,o=some v∧all Q (f v)
 | .two o f g=>(∃ v,o=some (.inl v)∧all Q (f v))∨(∃ v,o=some (.inr v)∧all Q (g v))
def map (h:α→β):Tr α→Tr β
 | .leaf x=>.leaf (h x)
 | .fail=>.fail
 | .guard p t=>.guard p (map h t)
 | .ite b t e=>.ite b (map h t) (map h e)
 | .split p q t e=>.split p q (map h t) (map h e)
 | .bind o f=>.bind o (fun v=>map h (f v))
 | .two o f g=>.two o (fun v=>map h (f v)) (fun v=>map h (g v))
open Classical in
noncomputable def run:Tr α→Option α
 | .leaf x=>some x
 | .fail=>none
 | .guard p t=>if p then run t else none
 | .ite b t e=>bif b then run t else run e
 | .split p q t e=>if p then (if q then (if run t=run e then run t else none) else run t) else run e
 | .bind o f=>o.bind (fun v=>run (f v))
 | .two o f g=>o.bind (fun s=>match s with | .inl v=>run (f v) | .inr v=>run (g v))
theorem run_all:∀ (t:Tr α) {r:α},t.run=some r→t.all (fun x=>x=r)
 | .leaf x,r,h=>show x=r by simpa[run] using h
 | .fail,r,h=>by simp[run] at h
 | .guard p t,r,h=>by
  simp only[run] at h
  split at h
  ·rename_i hp;exact ⟨hp,run_all t h⟩
  ·cases h
 | .ite b t e,r,h=>by
  cases b with
  | true=>exact ⟨fun _=>run_all t h,fun h=>by cases h⟩
  | false=>exact ⟨fun h=>(by cases h),fun _=>run_all e h⟩
 | .split p q t e,r,h=>by
  simp only[run] at h
  split at h
  ·split at h
   ·split at h
    ·rename_i he
     exact ⟨fun _=>run_all t h,fun _=>run_all e (he ▸ h)⟩
    ·cases h
   ·rename_i hq
    exact ⟨fun _=>run_all t h,fun k=>absurd k hq⟩
  ·rename_i hp
   exact ⟨fun k=>absurd k hp,fun _=>run_all e h⟩
 | .bind o f,r,h=>by
  simp only[run] at h
  cases o with
  | none=>cases h
  | some v=>exact ⟨v,rfl,run_all (f v) h⟩
 | .two o f g,r,h=>by
  simp only[run] at h
  cases o with
  | none=>cases h
  | some s =>
   cases s with
   | inl v=>exact .inl ⟨v,rfl,run_all (f v) h⟩
   | inr v=>exact .inr ⟨v,rfl,run_all (g v) h⟩
end Tr
def z70 {α:Type}:List Prop→Tr α→Tr α
 | [],t=>t
 | p::l,t=>.guard p (z70 l t)
theorem zv0 {α:Type} {Q:α→Prop}:∀ {l:List Prop} {t:Tr α},(z70 l t).all Q→z15 l∧t.all Q
 | [],_,h=>⟨trivial,h⟩
 | _::_,_,h=>⟨⟨h.1,(zv0 h.2).1⟩,(zv0 h.2).2⟩
structure CR:Type 1 where
 β:Type
 o:Option β
 d:β
 v:β→AV
 bs:β→List (Nat×Blk)
abbrev SpecT:=List AV→(Nat→Blk)→Nat→Option CR
def CR.res (c:CR):Res:=⟨[c.o.isSome=true],c.v (c.o.getD c.d),c.bs (c.o.getD c.d)⟩
def SpecT.spec (F:SpecT):Spec:=fun args bk id=>match F args bk id with
 | some c=>some c.res
 | none=>none
structure EnvT where
 P:Program
 sp:FuncId→Option SpecT
def EnvT.env (Y:EnvT):Env:=⟨Y.P,fun f=>match Y.sp f with
 | some F=>some F.spec
 | none=>none,false⟩
def EnvT.envP (Y:EnvT):Env:=⟨Y.P,Y.env.sp,true⟩
abbrev EnvT.Ok (Y:EnvT):Prop:=Y.env.Ok
def zahr (Y:EnvT) (g:Operand→AV) (bk:Nat→Blk) (id:Nat) (o:Oper):Option CR :=
 match o.op with
 | .call c=>match c with
  | { callee:=.value y,args:=xs,.. }=>match g y with
   | .fn f caps=>if zaf1 Y.P f=true then match Y.sp f with
     | some F=>F (xs.toList.map g++caps) bk id
     | none=>none
    else none
   | _=>none
  | _=>none
 | _=>none
theorem zadu {Y:EnvT} {g:Operand→AV} {bk:Nat→Blk} {id:Nat} {o:Oper} {c:CR} (h:zahr Y g bk id o=some c):zaj9 Y.env id g bk o=some c.res:=by
 unfold zahr at h
 unfold zaj9
 split at h
 ·rename_i cl ho
  rw[ho]
  split at h
  ·rename_i y xs ats
   split at h
   ·rename_i f caps hy
    split at h
    ·rename_i he
     split at h
     ·rename_i F hF
      simp only[EnvT.env,hy,he,hF,if_true,SpecT.spec,h]
     ·cases h
    ·cases h
   ·cases h
  ·cases h
 ·cases h
theorem zahs {c:CR} {r:c.β} (h:c.o=some r):c.res=⟨[c.o.isSome=true],c.v r,c.bs r⟩:=by unfold CR.res;rw[h];rfl
def zpj:List Blk→Nat
 | []=>0
 | .free::_=>0
 | _::l=>zpj l+1
mutual
def AV.owns:AV→List Nat
 | .own j=>[j]
 | .agg cs=>AV.ownsL cs
 | .tup cs=>AV.ownsL cs
 | .fn _ cs=>AV.ownsL cs
 | _=>[]
def AV.ownsL:List AV→List Nat
 | []=>[]
 | x::l=>AV.owns x++AV.ownsL l
end
def za4q (o:Oper):List Operand :=
 match o.op with
 | .store _ _ y=>[y]
 | .buildSlice _ _ parts=>parts.toList.map (·.2)
 | .build _ parts=>parts.toList.map (·.2)
 | .box _ x=>[x]
 | .call c=>c.args.toList
 | .indexAddr _ x _=>[x]
 | .slice _ x lo hi _=>if lo.isNone&&hi.isSome then [] else [x]
 | .binOp _ _ x y _=>[x,y]
 | .convert _ _ x=>[x]
 | _=>[]
def SV.pub (j:Nat) (s:Sl):SV→SV
 | .plain x=>.plain (x.pub j s)
 | .cond t x=>.cond t (x.pub j s)
def RSt.publish (j:Nat) (st:RSt):RSt :=
 match st.blks.getD j .dead with
 | .rows _ s=>⟨st.slots.map (SV.pub j s),(st.blks.map (Blk.pubAt j s)).set j .dead⟩
 | _=>st
def RSt.pubAll (js:List Nat) (st:RSt):RSt:=js.foldl (fun s j=>s.publish j) st
theorem zant (j:Nat) (s:Sl) (x:SV):(x.pub j s).boolOf=x.boolOf:=by
 have h:∀ y:AV,(SV.plain (y.pub j s)).boolOf=(SV.plain y).boolOf∧∀ t,(SV.cond t (y.pub j s)).boolOf=(SV.cond t y).boolOf:=by
  intro y
  cases y<;>try exact ⟨rfl,fun _=>rfl⟩
  case own i=>rw[AV.pub];split<;>exact ⟨rfl,fun _=>rfl⟩
 cases x with
 | plain y=>exact (h y).1
 | cond t y=>exact (h y).2 t
theorem RInv.publish {G:Gl} {gs:List Nat} {st:RSt} {nu:Nat→Option Value} {a:Act} {w:World} (h:RInv G gs st nu a w) (j:Nat):RInv G gs (st.publish j) nu a w:=by
 unfold RSt.publish
 split
 ·rename_i E s hb
  obtain ⟨h1,h2⟩:=h.mem.publish hb
  have hE:∀ d,RSt.E ⟨st.slots.map (SV.pub j s),(st.blks.map (Blk.pubAt j s)).set j .dead⟩ gs d=st.E gs d:=by
   intro d
   unfold RSt.E
   split
   ·have:(⟨st.slots.map (SV.pub j s),(st.blks.map (Blk.pubAt j s)).set j .dead⟩:RSt).slot d=(st.slot d).pub j s:=by
     unfold RSt.slot
     by_cases hd:d < st.slots.length
     ·exact zo6 _ _ _ _ _ hd
     ·rw[yy0,List.getElem?_eq_none (by simpa using hd),yy0,List.getElem?_eq_none (by omega)];rfl
    rw[this,zant]
   ·rfl
  refine ⟨h1,by rw[List.length_map];exact h.size,h.defers,fun d hd=>?_⟩
  rw[List.length_map] at hd
  have e:(⟨st.slots.map (SV.pub j s),(st.blks.map (Blk.pubAt j s)).set j .dead⟩:RSt).slot d=(st.slot d).pub j s:=zo6 _ _ _ _ _ hd
  rw[e]
  have hs:=h.slots d hd
  rw[show RSt.E _ gs=st.E gs from funext hE]
  cases hx:st.slot d with
  | plain x=>rw[hx] at hs;exact h2 hs
  | cond t x=>rw[hx] at hs;exact hs.imp (fun ⟨q1,q2⟩=>⟨q1,h2 q2⟩) id
 ·exact h
theorem RInv.pubAll {G:Gl} {gs:List Nat} {nu:Nat→Option Value} {a:Act} {w:World}:∀ (js:List Nat) {st:RSt},RInv G gs st nu a w→RInv G gs (st.pubAll js) nu a w
 | [],_,h=>h
 | j::js,_,h=>RInv.pubAll js (h.publish j)
def zayn (Y:EnvT) (st:RSt) (o:Oper):Option CR :=
 match o.guard with
 | none=>zahr Y (zw8 (zc4 none st) []) st.blk (zpj st.blks) o
 | some _=>none
def oneT (Y:EnvT) {α:Type} (ops:Array Oper) (gs:List Nat) (i:Nat) (o:Oper) (st:RSt) (k:RSt→Tr α):Option (Tr α) :=
 match zayn Y st o with
 | some c=>if z45 gs st o.dst=true then some (.bind c.o (fun r=>k (st.apply o.dst (.plain (c.v r)) (c.bs r)))) else none
 | none=>match zmm Y.env ops gs (fun _=>zpj st.blks) (fun _=>none) i st with
  | some (ob,st')=>some (z70 ob (k st'))
  | none=>none
def RSt.lit (st:RSt) (d:Nat) (b:Bool):RSt:=⟨st.slots.set d (.plain (.val (.bool b))),st.blks⟩
def oneG (Y:EnvT) {α:Type} (gs:List Nat) (t:List (Nat×Bool)) (o:Oper) (st:RSt) (k:RSt→Tr α):Tr α :=
 match z45 gs st o.dst with
 | false=>.fail
 | true=>match zahr Y (zw8 (zc4 none st) t) st.blk (zpj st.blks) o with
  | some c=>.bind c.o (fun r=>k (st.apply o.dst (.plain (c.v r)) (c.bs r)))
  | none=>match zaj9 Y.env (zpj st.blks) (zw8 (zc4 none st) t) st.blk o with
   | some r=>z70 r.obl (k (st.apply o.dst (.plain r.v) r.bs))
   | none=>.fail
def zaqh (Y:EnvT) {α:Type} (ops:Array Oper) (gs:List Nat) (o:Oper) (st:RSt) (k:RSt→Tr α):Tr α :=
 match z45 gs st o.dst with
 | false=>.fail
 | true=>match o.guard with
  | some _=>match zakm ops gs (zc4 none st) o with
   | some [(d,want)]=>match st.slot d with
    | .plain (.val (.bool b))=>match want with
     | true=>.ite b (oneG Y gs [(d,true)] o (st.lit d true) k) (k ((st.lit d false).apply o.dst (.plain .any) []))
     | false=>.ite b (k ((st.lit d true).apply o.dst (.plain .any) [])) (oneG Y gs [(d,false)] o (st.lit d false) k)
    | _=>.fail
   | _=>.fail
  | none=>match o.op with
   | .pick (.tmp d) x y=>match st.slot d with
    | .plain (.val (.bool b))=>.ite b (k (st.apply o.dst (.plain (zw8 (zc4 none st) [] x)) [])) (k (st.apply o.dst (.plain (zw8 (zc4 none st) [] y)) []))
    | _=>.fail
   | _=>.fail
def opsT (Y:EnvT) {α:Type} (ops:Array Oper) (gs:List Nat):List Nat→RSt→(RSt→Tr α)→Tr α
 | [],st,k=>k st
 | i::l,st,k=>match ops[i]? with
  | none=>.fail
  | some o=>match oneT Y ops gs i o st (fun s=>opsT Y ops gs l s k) with
   | some t=>t
   | none=>match oneT Y ops gs i o (st.pubAll (AV.ownsL ((za4q o).map (zw8 (zc4 none st) [])))) (fun s=>opsT Y ops gs l s k) with
    | some t=>t
    | none=>zaqh Y ops gs o st (fun s=>opsT Y ops gs l s k)
theorem zafi (l:List SV) (d:Option Nat) (x:SV):(zamm l d x).length=l.length:=by cases d<;>simp[zamm]
theorem zl8 (st:RSt) (d:Option Nat) (x:SV) (bs:List (Nat×Blk)):(st.apply d x bs).slots.length=st.slots.length:=zafi _ _ _
theorem zaco (j:Nat) (st:RSt):(st.publish j).slots.length=st.slots.length:=by unfold RSt.publish;split<;>simp
theorem zrh:∀ (js:List Nat) (st:RSt),(st.pubAll js).slots.length=st.slots.length
 | [],_=>rfl
 | j::js,st=>(zrh js (st.publish j)).trans (zaco j st)
theorem z4r {Y:Env} {ops:Array Oper} {gs:List Nat} {ids:Nat→Nat} {fp:Nat→Option FP} {i:Nat} {st st':RSt} {ob:List Prop} (h:zmm Y ops gs ids fp i st=some (ob,st')):st'.slots.length=st.slots.length:=by
 unfold zmm at h
 split at h
 ·cases h
 ·split at h
  ·split at h
   ·simp only[yy1,Prod.mk.injEq] at h
    rw[← h.2];exact zl8 _ _ _ _
   ·cases h
  ·cases h
theorem z12 {Y:Env} {ops:Array Oper} {gs:List Nat} {ids:Nat→Nat} {fp:Nat→Option FP}:∀ (l:List Nat) {st st':RSt} {ob:List Prop},zxa Y ops gs ids fp l st=some (ob,st')→st'.slots.length=st.slots.length
 | [],st,st',ob,h=>by
  simp only[zxa,yy1,Prod.mk.injEq] at h
  rw[h.2]
 | i::l,st,st',ob,h=>by
  simp only[zxa] at h
  split at h
  ·rename_i ob1 st1 h1
   split at h
   ·rename_i ob2 st2 h2
    simp only[yy1,Prod.mk.injEq] at h
    rw[← h.2];exact (z12 l h2).trans (z4r h1)
   ·cases h
  ·cases h
theorem z71 (gs:List Nat) (st:St):(st.enter gs).slots.length=st.n:=by simp[St.enter]
section sound
variable {Y:EnvT} {G:Gl} {gs:List Nat}
theorem zadv (hY:Y.Ok) {α:Type} {Q:α→Prop} {ops:Array Oper} {i:Nat} {o:Oper} (ho:ops[i]?=some o) {st:RSt} {nu:Nat→Option Value} {a:Act} {w:World} (h:RInv G gs st nu a w)
  {k:RSt→Tr α} {t:Tr α} (ht:oneT Y ops gs i o st k=some t) (hq:t.all Q) {K:Act→World→Prop} {R:Exit→Act→World→Prop}
  (hK:∀ st' nu' a' w',RInv G gs st' nu' a' w'→st'.slots.length=st.slots.length→(k st').all Q→K a' w'):wpOp Y.P ops R i K a w:=by
 unfold oneT at ht
 split at ht
 ·rename_i c hc
  split at ht
  ·rename_i hd
   simp only[yy1] at ht
   subst ht
   obtain ⟨r,hr,hq⟩:=hq
   have hstep:zmm Y.env ops gs (fun _=>zpj st.blks) (fun _=>none) i st=some ([c.o.isSome=true],st.apply o.dst (.plain (c.v r)) (c.bs r)):=by
    unfold zayn at hc
    split at hc
    ·rename_i hg
     unfold zmm
     have hnp:∀ c' x y,o.op≠.pick c' x y:=by
      intro c' x y hp
      unfold zahr at hc
      rw[hp] at hc
      cases hc
     have hcore:core Y.env ops gs (zpj st.blks) (zc4 none st) o=some ⟨[c.o.isSome=true],.plain (c.v r),c.bs r⟩:=by
      have habs:=zadu hc
      rw[zahs hr] at habs
      have htag:zakm ops gs (zc4 none st) o=some []:=by unfold zakm;rw[hg]
      unfold core
      rw[htag]
      simp only
      rw[show (zc4 none st).bk=st.blk from rfl,habs]
     simp only[ho,hcore,wbOk,hd,and_self,if_true]
    ·cases hc
   exact zzl hY h hstep ⟨by rw[hr];rfl,trivial⟩ fun nu' a' w' h'=>hK _ nu' a' w' h' (zl8 _ _ _ _) hq
  ·cases ht
 ·split at ht
  ·rename_i ob st' hs
   simp only[yy1] at ht
   subst ht
   obtain ⟨h1,h2⟩:=zv0 hq
   exact zzl hY h hs h1 fun nu' a' w' h'=>hK _ nu' a' w' h' (z4r hs) h2
  ·cases ht
theorem zal5 {st:RSt} {d:Nat} {b:Bool} (h:st.slot d=.plain (.val (.bool b))):st.lit d b=st:=by
 obtain ⟨sl,bl⟩:=st
 unfold RSt.lit
 congr 1
 unfold RSt.slot at h
 apply List.ext_getElem?
 intro i
 by_cases hi:i=d
 ·subst hi
  by_cases hl:i < sl.length
  ·rw[List.getElem?_set_self hl,← h,yy0,yy3 hl];rfl
  ·rw[List.getElem?_eq_none (by simp;omega),List.getElem?_eq_none (by omega)]
 ·exact List.getElem?_set_ne (fun e=>hi e.symm)
theorem z9g {st:RSt} {gs:List Nat} {o:Oper} (hd:z45 gs st o.dst=true):∀ d,o.dst=some d→gs.contains d=true→(st.slot d).boolOf=none:=by
 intro d hd' hg
 rw[hd'] at hd
 simp only[z45,hg,Bool.true_and,Bool.not_eq_true',Option.isSome_eq_false_iff,Option.isNone_iff_eq_none] at hd
 exact hd
theorem zadw (hY:Y.Ok) {α:Type} {Q:α→Prop} {o:Oper} {st:RSt} {nu:Nat→Option Value} {a:Act} {w:World} (h:RInv G gs st nu a w)
  {t:List (Nat×Bool)} (htg:Tags (st.E gs) t) {k:RSt→Tr α} (hq:(oneG Y gs t o st k).all Q) {K:Act→World→Prop} {R:Exit→Act→World→Prop}
  (hK:∀ st' nu' a' w',RInv G gs st' nu' a' w'→st'.slots.length=st.slots.length→(k st').all Q→K a' w'):o.wp Y.P a w K R:=by
 have go:∀ r:Res,zaj9 Y.env (zpj st.blks) (zw8 (zc4 none st) t) st.blk o=some r→z15 r.obl→z45 gs st o.dst=true→(k (st.apply o.dst (.plain r.v) r.bs)).all Q→o.wp Y.P a w K R:=by
  intro r hr hobl hd hq
  refine (z25 hY h.mem (zaf7 h none) (fun x=>zt4 h htg x) hr hobl).wp fun v w' hp=>?_
  obtain ⟨nu',h1,h2,h3⟩:=hp
  exact hK _ nu' _ w' (h.put (sv:=.plain r.v) h1 h2 (z9g hd) h3) (zl8 _ _ _ _) hq
 unfold oneG at hq
 split at hq
 ·exact hq.elim
 ·rename_i hd
  split at hq
  ·rename_i c hc
   obtain ⟨r,hr,hq⟩:=hq
   have habs:=zadu hc
   rw[zahs hr] at habs
   exact go _ habs ⟨by rw[hr];rfl,trivial⟩ hd hq
  ·split at hq
   ·rename_i r hr
    obtain ⟨h1,h2⟩:=zv0 hq
    exact go _ hr h1 hd h2
   ·exact hq.elim
theorem zaht (hY:Y.Ok) {α:Type} {Q:α→Prop} {ops:Array Oper} {i:Nat} {o:Oper} (ho:ops[i]?=some o) {st:RSt} {nu:Nat→Option Value} {a:Act} {w:World} (h:RInv G gs st nu a w)
  {k:RSt→Tr α} (hq:(zaqh Y ops gs o st k).all Q) {K:Act→World→Prop} {R:Exit→Act→World→Prop}
  (hK:∀ st' nu' a' w',RInv G gs st' nu' a' w'→st'.slots.length=st.slots.length→(k st').all Q→K a' w'):wpOp Y.P ops R i K a w:=by
 unfold zaqh at hq
 split at hq
 ·exact hq.elim
 ·rename_i hd
  split at hq
  ·split at hq
   ·rename_i d want ht
    split at hq
    ·rename_i b hb
     have skip:(k (st.apply o.dst (.plain .any) [])).all Q→K (a.put o.dst undef) w:=fun hq=>hK (st.apply o.dst (.plain .any) []) nu _ w (h.put (sv:=.plain .any) (.refl _) h.mem (z9g hd) Rd.any) (zl8 _ _ _ _) hq
     have hs:=h.slot d
     rw[hb] at hs
     have hE:∀ c,st.E gs d=some c→c=b:=by
      intro c hc
      unfold RSt.E at hc
      split at hc
      ·rw[hb] at hc;exact (Option.some.inj hc).symm
      ·cases hc
     have hw:Region.wanted o (yielded ops a.tmps)=(b==want)∧(b=want→Tags (st.E gs) [(d,want)]):=by
      rcases zw9 h ht with ⟨h1,h2⟩ | ⟨h1,_,p,h2,h3⟩
      ·rw[h1,← hE _ (h2 (d,want) (by simp))];exact ⟨by simp,fun _=>h2⟩
      ·simp only[List.mem_singleton] at h2
       subst h2
       rw[h1,← hE _ h3];cases want<;>exact ⟨rfl,fun e=>by cases e⟩
     obtain ⟨hw,htg⟩:=hw
     unfold wpOp
     simp only[ho,hw]
     cases want with
     | true =>
      simp only at hq
      cases b with
      | true=>exact .inl (zadw hY h (htg rfl) (by have:=hq.1 rfl;rwa [zal5 hb] at this) hK)
      | false=>exact skip (by have:=hq.2 rfl;rwa [zal5 hb] at this)
     | false =>
      simp only at hq
      cases b with
      | true=>exact skip (by have:=hq.1 rfl;rwa [zal5 hb] at this)
      | false=>exact .inl (zadw hY h (htg rfl) (by have:=hq.2 rfl;rwa [zal5 hb] at this) hK)
    ·exact hq.elim
   ·exact hq.elim
  ·rename_i hg
   split at hq
   ·rename_i d x y hop
    split at hq
    ·rename_i b hb
     have hs:=h.slot d
     rw[hb] at hs
     have hv:a.eval (.tmp d)=.bool b:=by
      show a.tmps.getD d undef=.bool b
      generalize a.tmps.getD d undef=v at hs
      cases hs;rfl
     have hw:Region.wanted o (yielded ops a.tmps)=true:=by simp[Region.wanted,hg]
     unfold wpOp
     simp only[ho,hw,if_true]
     refine .inl ?_
     have hdoes:Does Y.P o a.eval w (fun u w'=>u=(if b then a.eval x else a.eval y)∧w'=w):=by
      refine Does.value (v:=if b then a.eval x else a.eval y) (w':=w) ?_ ⟨rfl,rfl⟩
      simp[execOp,hop,hv,asBool]
     refine hdoes.wp fun u w' hu=>?_
     obtain ⟨rfl,rfl⟩:=hu
     cases b with
     | true=>exact hK (st.apply o.dst (.plain (zw8 (zc4 none st) [] x)) []) nu _ _ (h.put (sv:=.plain (zw8 (zc4 none st) [] x)) (.refl _) h.mem (z9g hd) (zt4 (fp:=none) (t:=[]) h (fun p hp=>by cases hp) x)) (zl8 _ _ _ _) (hq.1 rfl)
     | false=>exact hK (st.apply o.dst (.plain (zw8 (zc4 none st) [] y)) []) nu _ _ (h.put (sv:=.plain (zw8 (zc4 none st) [] y)) (.refl _) h.mem (z9g hd) (zt4 (fp:=none) (t:=[]) h (fun p hp=>by cases hp) y)) (zl8 _ _ _ _) (hq.2 rfl)
    ·exact hq.elim
   ·exact hq.elim
theorem z1f (hY:Y.Ok) {α:Type} {Q:α→Prop} {ops:Array Oper} {R:Exit→Act→World→Prop}:∀ (l:List Nat) {st:RSt} {nu:Nat→Option Value} {a:Act} {w:World} {k:RSt→Tr α},
  RInv G gs st nu a w→(opsT Y ops gs l st k).all Q→(∀ st' nu' a' w',RInv G gs st' nu' a' w'→st'.slots.length=st.slots.length→(k st').all Q→R .normal a' w')→wpOps Y.P ops R l a w
 | [],st,nu,a,w,k,h,hq,hR=>hR st nu a w h rfl hq
 | i::l,st,nu,a,w,k,h,hq,hR=>by
  rw[wpOps_cons]
  simp only[opsT] at hq
  split at hq
  ·exact hq.elim
  ·rename_i o ho
   split at hq
   ·rename_i t ht
    exact zadv hY ho h ht hq fun st' nu' a' w' h' hl hq'=>z1f hY l h' hq' fun s2 nu2 a2 w2 h2 hl2=>hR s2 nu2 a2 w2 h2 (hl2.trans hl)
   ·split at hq
    ·rename_i t ht
     exact zadv hY ho (h.pubAll _) ht hq fun st' nu' a' w' h' hl hq'=>z1f hY l h' hq' fun s2 nu2 a2 w2 h2 hl2=>hR s2 nu2 a2 w2 h2 (hl2.trans (hl.trans (zrh _ _)))
    ·exact zaht hY ho h hq fun st' nu' a' w' h' hl hq'=>z1f hY l h' hq' fun s2 nu2 a2 w2 h2 hl2=>hR s2 nu2 a2 w2 h2 (hl2.trans hl)
end sound
def gsOf (ops:Array Oper):List Nat:=(ops.toList.filterMap fun o=>o.guard.bind fun p=>(ops[p.1]?).bind (·.dst)).eraseDups
mutual
def AV.nums:AV→List Nat
 | .own j=>[j]
 | .ptr j _=>[j]
 | .pix j _ _ _=>[j]
 | .rptr j _ _ _=>[j]
 | .rpix j _ _ _ _=>[j]
 | .iface _ j=>[j]
 | .win j _ _=>[j]
 | .agg cs=>AV.numsL cs
 | .tup cs=>AV.numsL cs
 | .fn _ cs=>AV.numsL cs
 | _=>[]
def AV.numsL:List AV→List Nat
 | []=>[]
 | x::l=>AV.nums x++AV.numsL l
end
def zaqi (o:Oper):List Operand :=
 match o.op with
 | .move x=>[x]
 | .assign x=>[x]
 | .box _ x=>[x]
 | .build _ parts=>parts.toList.map (·.2)
 | .load _ x=>[x]
 | .store _ x y=>[x,y]
 | .nilCheck x=>[x]
 | .fieldAddr _ x _=>[x]
 | .field _ x _=>[x]
 | .indexAddr _ x y=>[x,y]
 | .index _ x y=>[x,y]
 | .extract x _=>[x]
 | .binOp _ _ x y _=>[x,y]
 | .unOp _ _ x=>[x]
 | .convert _ _ x=>[x]
 | .buildSlice _ _ parts=>parts.toList.map (·.2)
 | .makeFunc _ _ caps=>caps.toList
 | .makeInterface _ x=>[x]
 | .pick c x y=>[c,x,y]
 | .slice _ x a b c=>x::(a.toList++b.toList++c.toList)
 | .call c=>(match c.callee with | .value y=>[y] | _=>[])++c.args.toList
 | _=>[]
def za0y (o:Oper):List Operand :=
 match o.op with
 | .move _=>[]
 | .assign _=>[]
 | .nilCheck _=>[]
 | .fieldAddr _ _ _=>[]
 | _=>zaqi o
def za4r (l:List Operand):List Nat:=l.filterMap fun | .tmp d=>some d | _=>none
def zayp (Y:Env) (ops:Array Oper) (gs:List Nat):List Nat→RSt→Nat→List (FP×Nat)
 | [],_,_=>[]
 | i::l,st,n=>match ops[i]? with
  | none=>[]
  | some o=>match zmm Y ops gs (fun _=>n) (fun _=>none) i st with
   | some (_,st') =>
    let t:=match zakm ops gs (zc4 none st) o with
     | some t=>t
     | none=>[]
    let wb:=(match core Y ops gs n (zc4 none st) o with | some out=>out.bs.map (·.1) | none=>[])
    (⟨za4r (zaqi o)++t.map (·.1),AV.numsL ((za0y o).map (zw8 (zc4 none st) t))++wb,wb⟩,n)::zayp Y ops gs l st' (n+(wb.filter (fun k=>Nat.ble n k)).length)
   | none=>[]
def za4s:List Blk→Nat
 | []=>0
 | b::l=>match za4s l with
  | 0=>match b with
   | .free=>0
   | _=>1
  | n+1=>n+2
def fpAt (l:List (FP×Nat)) (i:Nat):FP:=(l.getD i (⟨[],[],[]⟩,0)).1
def idAt (l:List (FP×Nat)) (i:Nat):Nat:=(l.getD i (⟨[],[],[]⟩,0)).2
inductive LR:Type 1 where
 | one {β:Type} (o:Option β) (out:β→Exit×St):LR
 | two {β γ:Type} (o:Option (β⊕γ)) (f:β→Exit×St) (g:γ→Exit×St):LR
def LR.all (Q:Exit→St→Prop):LR→Prop
 | .one o out=>∃ v,o=some v∧Q (out v).1 (out v).2
 | .two o f g=>(∃ v,o=some (.inl v)∧Q (f v).1 (f v).2)∨(∃ v,o=some (.inr v)∧Q (g v).1 (g v).2)
def LR.tr {α:Type} (k:Exit→St→Tr α):LR→Tr α
 | .one o out=>.bind o (fun v=>k (out v).1 (out v).2)
 | .two o f g=>.two o (fun v=>k (f v).1 (f v).2) (fun v=>k (g v).1 (g v).2)
def zanu (G:Gl) (Lc:Nat):Prop:=∀ k v,G.fix k=some v→k < Lc
def zk (Y:Env) (Lc:Nat) (c:Code) (L:St→Option LR):Prop :=
 ∀ st R,L st=some R→∀ (G:Gl),zanu G Lc→∀ (Q:Exit→St→Prop),R.all Q→Wp Y G c st Q
def eqP:List Nat→List Nat→Bool
 | [],[]=>true
 | a::l,b::m=>Nat.beq a b&&eqP l m
 | _,_=>false
theorem zayq:∀ {l m:List Nat},eqP l m=true→l=m
 | [],[],_=>rfl
 | a::l,b::m,h=>by
  simp only[eqP,yy7] at h
  rw[Nat.eq_of_beq_eq_true h.1,zayq h.2]
 | [],_::_,h=>by cases h
 | _::_,[],h=>by cases h
def atP {α:Type 1}:List (List Nat×α)→List Nat→Option α
 | [],_=>none
 | p::l,π=>match eqP p.1 π with
  | true=>some p.2
  | false=>atP l π
theorem zafj {α:Type 1}:∀ {l:List (List Nat×α)} {π:List Nat} {x:α},atP l π=some x→(π,x)∈l
 | [],_,_,h=>by cases h
 | p::l,π,x,h=>by
  simp only[atP] at h
  split at h
  ·rename_i he
   simp only[yy1] at h
   rw[← zayq he,← h];exact List.mem_cons_self
  ·exact List.mem_cons_of_mem _ (zafj h)
def numP:List (List Nat×Nat)→List Nat→Nat
 | [],_=>0
 | p::l,π=>match eqP p.1 π with
  | true=>p.2
  | false=>numP l π
def inP:List (List Nat)→List Nat→Bool
 | [],_=>false
 | p::l,π=>eqP p π||inP l π
def nthL:List (List Nat)→Nat→List Nat
 | [],_=>[]
 | l::_,0=>l
 | _::ls,n+1=>nthL ls n
def nthP:List (Nat×List Nat)→Nat→List Nat
 | [],_=>[]
 | p::l,n=>match Nat.beq p.1 n with
  | true=>p.2
  | false=>nthP l n
structure Ann where
 cut:List (List Nat×(St→Option LR))
 roll:List (List Nat×Nat)
 stat:List (List Nat)
 live:List (List Nat)
 pre:List (Nat×List Nat)
def zbdx:Code→Nat→Code
 | .seq x _,0=>x
 | .seq _ y,_=>y
 | .block _ c,_=>c
 | .loop c,_=>c
 | .cond _ x _,0=>x
 | .cond _ _ y,_=>y
 | c,_=>c
def sub (root:Code):List Nat→Code
 | []=>root
 | b::π=>zbdx (sub root π) b
def zzf (Y:Env) (L:Nat) (root:Code):List (List Nat×(St→Option LR))→Prop
 | []=>True
 | p::l=>zk Y L (sub root p.1) p.2∧zzf Y L root l
theorem z1g {Y:Env} {L:Nat} {root:Code}:∀ {l:List (List Nat×(St→Option LR))},zzf Y L root l→∀ p,p∈l→zk Y L (sub root p.1) p.2
 | [],_,_,h=>by cases h
 | q::l,hc,p,h=>by
  rcases List.mem_cons.1 h with rfl | h
  ·exact hc.1
  ·exact z1g hc.2 p h
def zats {α:Type} (F:Nat→St→(Exit→St→Tr α)→Tr α):Nat→St→(Exit→St→Tr α)→Tr α
 | 0,_,_=>.fail
 | n+1,st,k=>F n st (fun e s=>match e with
  | .normal=>zats F n s k
  | e=>k e s)
def zaqj (st:St):Operand→AV
 | .tmp d=>st.slot d
 | .const v=>.val v
 | _=>.any
def St.ownsAt (st:St) (d:Nat):List Nat:=match Nat.blt d 100000 with
 | true=>AV.owns (st.slot d)++(match st.slot d with
  | .ptr j _=>match st.blks.getD j .dead with
   | .cells _ cs=>AV.ownsL cs
   | _=>[]
  | _=>[])
 | false=>match st.slot (d % 100000) with
  | .ptr j _=>match st.blks.getD j .dead with
   | .cells _ cs=>AV.owns (cs.getD (d / 100000 - 1) .any)
   | _=>[]
  | _=>[]
def zatt (V:Env) (A:Ann) {α:Type} (id:Nat) (ops:Array Oper) (st:St) (r0:RSt) (k:St→Tr α):Option (Tr α) :=
 let fp:=zayp V ops (gsOf ops) (List.range ops.size) r0 (za4s r0.blks)
 if zaqg ops (fpAt fp)=true then match zxa V ops (gsOf ops) (idAt fp) (fun i=>some (fpAt fp i)) (List.range ops.size) r0 with
  | some (ob,r)=>some (z70 ob (k (r.tidy st.n (nthL A.live id))))
  | none=>none
 else none
def zaj5 (Y:EnvT) (A:Ann) {α:Type} (id:Nat) (ops:Array Oper) (draw:Bool) (st:St) (k:St→Tr α):Tr α :=
 match draw with
 | false=>opsT Y ops (gsOf ops) (List.range ops.size) ((st.enter (gsOf ops)).pubAll ((nthP A.pre id).flatMap st.ownsAt)) (fun r=>k (r.tidy st.n (nthL A.live id)))
 | true =>
  let r0:=(st.enter (gsOf ops)).pubAll ((nthP A.pre id).flatMap st.ownsAt)
  match zatt Y.env A id ops st r0 k with
  | some t=>t
  | none=>match zatt Y.envP A id ops st r0 k with
   | some t=>t
   | none=>.fail
def zanv {α:Type} (stat:Bool) (st:St) (x:AV) (t e:Tr α):Tr α :=
 match x with
 | .val (.bool b)=>match stat with
  | true=>match b with
   | true=>t
   | false=>e
  | false=>.ite b t e
 | .own j=>match st.blks.getD j .dead with
  | .bit p q=>.split p q t e
  | _=>.fail
 | _=>.fail
def absC (Y:EnvT) (A:Ann) {α:Type}:Code→List Nat→St→(Exit→St→Tr α)→Tr α
 | .skip,_,st,k=>k .normal st
 | .ret,_,st,k=>k .ret st
 | .exit id,_,st,k=>k (.exit id) st
 | .seq x y,π,st,k=>absC Y A x (0::π) st (fun e s=>match e with
  | .normal=>absC Y A y (1::π) s k
  | e=>k e s)
 | .block id c,π,st,k=>absC Y A c (0::π) st (fun e s=>match e with
  | .exit id'=>if id'=id then k .normal s else k (.exit id') s
  | e=>k e s)
 | .cond c x y,π,st,k=>match atP A.cut π with
  | some L=>match L st with
   | some R=>R.tr k
   | none=>.fail
  | none=>zanv (inP A.stat π) st (zaqj st c) (absC Y A x (0::π) st k) (absC Y A y (1::π) st k)
 | .loop c,π,st,k=>match atP A.cut π with
  | some L=>match L st with
   | some R=>R.tr k
   | none=>.fail
  | none=>zats (fun i=>absC Y A c ((i+2)::π)) (numP A.roll π) st k
 | .region id ops draw,π,st,k=>match atP A.cut π with
  | some L=>match L st with
   | some R=>R.tr k
   | none=>.fail
  | none=>zaj5 Y A id ops draw st (k .normal)
 | _,_,_,_=>.fail
section code
variable {Y:EnvT} {A:Ann} {G:Gl}
theorem LR.tr_all {α:Type} {Q:α→Prop} {k:Exit→St→Tr α} {R:LR} (h:(R.tr k).all Q):R.all (fun e s=>(k e s).all Q):=by
 cases R<;>exact h
theorem z97 {V:Env} (hV:V.Ok) (hm:V.P.follows .mixedOrders=true) {α:Type} {Q:α→Prop} {id:Nat} {ops:Array Oper} {st:St} {js:List Nat} {k:Exit→St→Tr α} {t:Tr α}
  (h:zatt V A id ops st ((st.enter (gsOf ops)).pubAll js) (k .normal)=some t) (hq:t.all Q):Wp V G (.region id ops true) st (fun e s=>(k e s).all Q):=by
 intro a w hi
 obtain ⟨nu,hn⟩:=hi
 have hr:=hn.enter (gsOf ops)
 unfold zatt at h
 simp only at h
 split at h
 ·rename_i hlex
  split at h
  ·rename_i ob r hrun
   simp only[yy1] at h
   subst h
   obtain ⟨h1,h2⟩:=zv0 hq
   exact zaj4 hV hm hlex (hr.pubAll _) hrun h1 fun nu' a' w' h'=>⟨_,h2,nu',h'.tidy ((z12 _ hrun).trans ((zrh _ _).trans (z71 _ _))) _⟩
  ·cases h
 ·cases h
theorem zafk (hY:Y.Ok) (hm:Y.P.follows .mixedOrders=true) {α:Type} {Q:α→Prop} {id:Nat} {ops:Array Oper} {draw:Bool} {st:St} {k:Exit→St→Tr α}
  (h:(zaj5 Y A id ops draw st (k .normal)).all Q):Wp Y.env G (.region id ops draw) st (fun e s=>(k e s).all Q):=by
 unfold zaj5 at h
 cases draw with
 | false =>
  intro a w hi
  obtain ⟨nu,hn⟩:=hi
  have hr:=hn.enter (gsOf ops)
  exact wp_region (z1f hY _ (hr.pubAll _) h fun st' nu' a' w' h' hl hq=>⟨_,hq,nu',h'.tidy (hl.trans ((zrh _ _).trans (z71 _ _))) _⟩)
 | true =>
  simp only at h
  split at h
  ·rename_i t ht
   exact z97 hY hm ht h
  ·split at h
   ·rename_i t ht
    exact z97 (V:=Y.envP) hY hm ht h
   ·exact h.elim
theorem z98 {α:Type} {Q:α→Prop} {stat:Bool} {c:Operand} {x y:Code} {st:St} {t e:Tr α} {R:Exit→St→Prop} (h:(zanv stat st (zaqj st c) t e).all Q)
  (ht:t.all Q→Wp Y.env G x st R) (he:e.all Q→Wp Y.env G y st R):Wp Y.env G (.cond c x y) st R:=by
 unfold zanv at h
 split at h
 ·rename_i b hb
  refine za01 b (by cases c<;>exact hb) (fun hb=>?_) (fun hb=>?_)
  ·subst hb
   cases stat<;>simp only at h
   ·exact ht (h.1 rfl)
   ·exact ht h
  ·subst hb
   cases stat<;>simp only at h
   ·exact he (h.2 rfl)
   ·exact he h
 ·rename_i j hj
  split at h
  ·rename_i p q hb
   cases c with
   | tmp d=>exact za4p j hj hb (fun hp=>ht (h.1 hp)) (fun hq=>he (h.2 hq))
   | _=>cases hj
  ·exact h.elim
 ·exact h.elim
theorem zaj6 {α:Type} {Q:α→Prop} {c:Code} {F:Nat→St→(Exit→St→Tr α)→Tr α} (hF:∀ i st (k:Exit→St→Tr α),(F i st k).all Q→Wp Y.env G c st (fun e s=>(k e s).all Q)) {k:Exit→St→Tr α} :
  ∀ n st,(zats F n st k).all Q→Wp Y.env G (.loop c) st (fun e s=>(k e s).all Q):=by
 have key:∀ n st,(zats F n st k).all Q→∀ a w,Inv G st a w→Code.rounds Y.P c (fun e a' w'=>∃ st',(k e st').all Q∧Inv G st' a' w') n a w:=by
  intro n
  induction n with
  | zero=>intro st h;exact h.elim
  | succ n ih =>
   intro st h a w hi
   refine wp_mono (hF _ st _ h a w hi) fun e a' w' hq=>?_
   obtain ⟨st',h1,h2⟩:=hq
   cases e with
   | normal=>exact ih st' h1 a' w' h2
   | _=>exact ⟨st',h1,h2⟩
 exact fun n st h a w hi=>wp_loop_rounds n (key n st h a w hi)
theorem zh1 (hY:Y.Ok) (hm:Y.P.follows .mixedOrders=true) {root:Code} {Lc:Nat} (hG:zanu G Lc) (hA:zzf Y.env Lc root A.cut) {α:Type} {Q:α→Prop} :
  ∀ (c:Code) (π:List Nat),sub root π=c→∀ (st:St) (k:Exit→St→Tr α),(absC Y A c π st k).all Q→Wp Y.env G c st (fun e s=>(k e s).all Q)
 | .skip,_,_,st,k,h=>za0z h
 | .ret,_,_,st,k,h=>za4u h
 | .exit id,_,_,st,k,h=>za00 h
 | .seq x y,π,hs,st,k,h=>by
  refine za4t (zaqm (zh1 hY hm hG hA x (0::π) (by rw[sub,hs];rfl) st _ h) fun e s hq=>?_)
  cases e with
  | normal=>exact zh1 hY hm hG hA y (1::π) (by rw[sub,hs];rfl) s k hq
  | _=>exact hq
 | .block id c,π,hs,st,k,h=>by
  refine zatu (zaqm (zh1 hY hm hG hA c (0::π) (by rw[sub,hs];rfl) st _ h) fun e s hq=>?_)
  cases e with
  | exit id' =>
   simp only at hq
   simp only[zaql]
   split
   ·rename_i he;rw[if_pos he] at hq;exact hq
   ·rename_i he;rw[if_neg he] at hq;exact hq
  | _=>exact hq
 | .cond c x y,π,hs,st,k,h=>by
  simp only[absC] at h
  split at h
  ·rename_i L hL
   split at h
   ·rename_i R hR
    have:=z1g hA _ (zafj hL)
    rw[hs] at this
    exact this st R hR G hG _ (LR.tr_all h)
   ·exact h.elim
  ·exact z98 h (zh1 hY hm hG hA x (0::π) (by rw[sub,hs];rfl) st k) (zh1 hY hm hG hA y (1::π) (by rw[sub,hs];rfl) st k)
 | .loop c,π,hs,st,k,h=>by
  simp only[absC] at h
  split at h
  ·rename_i L hL
   split at h
   ·rename_i R hR
    have:=z1g hA _ (zafj hL)
    rw[hs] at this
    exact this st R hR G hG _ (LR.tr_all h)
   ·exact h.elim
  ·exact zaj6 (fun i=>zh1 hY hm hG hA c ((i+2)::π) (by rw[sub,hs];rfl)) _ st h
 | .region id ops draw,π,hs,st,k,h=>by
  simp only[absC] at h
  split at h
  ·rename_i L hL
   split at h
   ·rename_i R hR
    have:=z1g hA _ (zafj hL)
    rw[hs] at this
    exact this st R hR G hG _ (LR.tr_all h)
   ·exact h.elim
  ·exact zafk hY hm h
 | .label _,_,_,_,_,h=>h.elim
 | .goto _,_,_,_,_,h=>h.elim
end code
