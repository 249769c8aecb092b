/-
  The walk over abstract states.
-/
import Derived.Test.YtobfadhgiaphnaaGreatXAbAny
import Derived.Deep.LoopGhost
namespace Go.Proofs.YtobfadhgiaphnaaGreat.Ab
open Go Go.RowKit
set_option linter.unusedSimpArgs false
set_option linter.unusedVariables false
mutual
def AV.clear (p:Nat→Bool):AV→Bool
 | .any=>true
 | .val _=>true
 | .agg cs=>AV.clearL p cs
 | .tup cs=>AV.clearL p cs
 | .sl _=>true
 | .own j => !p j
 | .ptr j _ => !p j
 | .eptr _ _ _=>true
 | .pix j _ _ _ => !p j
 | .rptr j _ _ _ => !p j
 | .rpix j _ _ _ _ => !p j
 | .iface _ j => !p j
 | .win j _ _ => !p j
 | .fn _ cs=>AV.clearL p cs
def AV.clearL (p:Nat→Bool):List AV→Bool
 | []=>true
 | x::l=>AV.clear p x&&AV.clearL p l
end
theorem zv1 {p:Nat→Bool}:∀ {cs:List AV},AV.clearL p cs=true→∀ i,i < cs.length→(cs.getD i .any).clear p=true
 | [],_,i,hi=>absurd hi (Nat.not_lt_zero i)
 | x::l,h,0,_=>by
  simp only[AV.clearL,yy7] at h
  exact h.1
 | x::l,h,i+1,hi=>by
  simp only[AV.clearL,yy7] at h
  have:=zv1 h.2 i (by simpa using hi)
  simpa using this
theorem zjv (p:Nat→Bool) (s:Sl) (k c:Nat) (hc:c < s.sz):(s.cell k c).clear p=true:=by
 have h:∀ (s:Sl) (k:Nat),AV.clearL p (s.row k)=true:=by
  intro s k
  cases s<;>simp[Sl.row,AV.clearL,AV.clear,Power.cells,Packet.cells,Wait.cells,Asked.cells,Ripe.cells,Deed.cells,Reply.cells,Order.cells,Carry.cells]
 exact zv1 (h s k) c (by rw[Sl.row_length];exact hc)
theorem Rd.change {C C':Cx} {p:Nat→Bool} (hcell:∀ a v,¬ C.L a.block→C.w.cell? a=some v→C'.w.cell? a=some v∧¬ C'.L a.block)
  (hnu:∀ j u,p j=false→C.nu j=some u→C'.nu j=some u) {x:AV} {v:Value} (h:Rd C x v) (hx:x.clear p=true):Rd C' x v:=by
 induction h with
 | any=>exact .any
 | val=>exact .val
 | agg hl _ ih=>exact .agg hl fun i hi=>ih i hi (zv1 hx i hi)
 | tup hl _ ih=>exact .tup hl fun i hi=>ih i hi (zv1 hx i hi)
 | fn hl _ ih=>exact .fn hl fun i hi=>ih i hi (zv1 hx i hi)
 | slnil h0=>exact .slnil h0
 | @sl s a cap g hm hc hcl hL _ ih =>
  refine .sl a cap g hm hc (fun k c hk hcc=>(hcell _ _ ?_ (hcl k c hk hcc)).1) (fun h0=>?_) (fun k c hk hc=>ih k c hk hc (zjv p s k c hc))
  ·rw[zau];exact hL (by omega)
  ·have:=(hcell _ _ (by rw[zau];exact hL h0) (hcl 0 0 h0 (zt3 s))).2
   rwa [zau] at this
 | @own j v h=>exact .own (hnu _ _ (by simpa[AV.clear] using hx) h)
 | @ptr j off b h=>exact .ptr (hnu _ _ (by simpa[AV.clear] using hx) h)
 | pix h hi=>exact .pix (hnu _ _ (by simpa[AV.clear] using hx) h) hi
 | rptr h hi=>exact .rptr (hnu _ _ (by simpa[AV.clear] using hx) h) hi
 | rpix h hi hb=>exact .rpix (hnu _ _ (by simpa[AV.clear] using hx) h) hi hb
 | iface h=>exact .iface (hnu _ _ (by simpa[AV.clear] using hx) h)
 | win h=>exact .win (hnu _ _ (by simpa[AV.clear] using hx) h)
 | @eptr s k off a g hs hL hcl hrd ih =>
  refine .eptr a g hs (fun h0=>?_) (fun c hc=>(hcell _ _ ?_ (hcl c hc)).1) (fun c hc=>ih c hc (zjv p s k _ hc))
  ·have:=(hcell _ _ (by rw[zau];exact hL h0) (hcl 0 (by omega))).2
   rwa [zau] at this
  ·rw[zau];exact hL (by omega)
def lk:List (Nat×AV)→Nat→AV
 | [],_=>.any
 | p::l,d=>if d=p.1 then p.2 else lk l d
structure St where
 n:Nat
 sl:List (Nat×AV)
 blks:List Blk
def SV.out:SV→AV
 | .plain x=>x
 | .cond _ _=>.any
def St.slot (st:St) (d:Nat):AV:=if d < st.n then lk st.sl d else .any
def St.blk (st:St) (j:Nat):Blk:=st.blks.getD j .dead
structure NInv (G:Gl) (st:St) (nu:Nat→Option Value) (a:Act) (w:World):Prop where
 mem:MInv G st.blks nu w
 size:a.tmps.size=st.n
 defers:a.defers=[]
 slots:∀ d,d < st.n→Rd (cx G st.blks nu w) (st.slot d) (a.tmps.getD d undef)
def Inv (G:Gl) (st:St) (a:Act) (w:World):Prop:=∃ nu,NInv G st nu a w
theorem zo6 {α β:Type} (f:α→β) (l:List α) (i:Nat) (d:α) (e:β) (h:i < l.length):(l.map f).getD i e=f (l.getD i d):=by
 simp[yy0,yy3 h]
theorem zal6 (f:Nat→AV):∀ (l:List Nat) (d:Nat),lk (l.map fun d=>(d,f d)) d=if d∈l then f d else .any
 | [],d=>by simp[lk]
 | x::l,d=>by
  simp only[List.map_cons,lk,List.mem_cons]
  by_cases h:d=x
  ·subst h;simp
  ·rw[if_neg h,zal6 f l d]
   simp[h]
theorem zaqk (g:AV→AV) (hg:g .any=.any):∀ (l:List (Nat×AV)) (d:Nat),lk (l.map fun p=>(p.1,g p.2)) d=g (lk l d)
 | [],d=>hg.symm
 | p::l,d=>by
  simp only[List.map_cons,lk]
  split
  ·rfl
  ·exact zaqk g hg l d
def St.enter (gs:List Nat) (st:St):RSt:=⟨(List.range st.n).map (fun d=>if gs.contains d then .plain .any else .plain (st.slot d)),st.blks⟩
theorem NInv.enter {G:Gl} {st:St} {nu:Nat→Option Value} {a:Act} {w:World} (h:NInv G st nu a w) (gs:List Nat):RInv G gs (st.enter gs) nu a w:=by
 refine ⟨h.mem,by simpa[St.enter] using h.size,h.defers,fun d hd=>?_⟩
 have hd':d < st.n:=by simpa[St.enter] using hd
 have e:(st.enter gs).slot d=if gs.contains d then .plain .any else .plain (st.slot d):=by
  show List.getD _ _ _=_
  rw[St.enter,yy0,List.getElem?_map,List.getElem?_range hd']
  rfl
 rw[e]
 split
 ·exact Rd.any
 ·exact h.slots d hd'
def RSt.tidy (n:Nat) (live:List Nat) (r:RSt):St:=⟨n,live.map (fun d=>(d,(r.slot d).out)),r.blks⟩
theorem RInv.tidy {G:Gl} {gs:List Nat} {r:RSt} {nu:Nat→Option Value} {a:Act} {w:World} (h:RInv G gs r nu a w) {n:Nat} (hn:r.slots.length=n) (live:List Nat):NInv G (r.tidy n live) nu a w:=by
 subst hn
 refine ⟨h.mem,h.size,h.defers,fun d hd=>?_⟩
 have e:(r.tidy r.slots.length live).slot d=if d∈live then (r.slot d).out else .any:=(if_pos hd).trans (zal6 _ _ _)
 rw[e]
 split
 ·have hs:=h.slots d hd
  cases hx:r.slot d with
  | plain x=>rw[hx] at hs;exact hs
  | cond t x=>exact Rd.any
 ·exact .any
def Wp (Y:Env) (G:Gl) (c:Code) (st:St) (Q:Exit→St→Prop):Prop :=
 ∀ a w,Inv G st a w→c.wp Y.P (fun e a' w'=>∃ st',Q e st'∧Inv G st' a' w') a w
def zbdy (k:St→Prop) (Q:Exit→St→Prop):Exit→St→Prop
 | .normal,s=>k s
 | e,s=>Q e s
def zaql (id:Nat) (Q:Exit→St→Prop):Exit→St→Prop
 | .exit id',s=>if id'=id then Q .normal s else Q (.exit id') s
 | e,s=>Q e s
section rules
variable {Y:Env} {G:Gl} {st:St} {Q:Exit→St→Prop}
theorem za4t {x y:Code} (h:Wp Y G x st (zbdy (fun s=>Wp Y G y s Q) Q)):Wp Y G (.seq x y) st Q:=by
 intro a w hi
 refine wp_seq (wp_mono (h a w hi) fun e a' w' hq=>?_)
 obtain ⟨st',h1,h2⟩:=hq
 cases e<;>first
  | exact h1 a' w' h2
  | exact ⟨st',h1,h2⟩
theorem zatu {id:Nat} {c:Code} (h:Wp Y G c st (zaql id Q)):Wp Y G (.block id c) st Q:=by
 intro a w hi
 refine wp_block (wp_mono (h a w hi) fun e a' w' hq=>?_)
 obtain ⟨st',h1,h2⟩:=hq
 cases e with
 | exit id' =>
  simp only[Exit.inBlock]
  simp only[zaql] at h1
  split
  ·rename_i he;rw[if_pos he] at h1;exact ⟨st',h1,h2⟩
  ·rename_i he;rw[if_neg he] at h1;exact ⟨st',h1,h2⟩
 | _=>exact ⟨st',h1,h2⟩
theorem za0z (h:Q .normal st):Wp Y G .skip st Q:=fun _ _ hi=>wp_skip ⟨st,h,hi⟩
theorem za4u (h:Q .ret st):Wp Y G .ret st Q:=fun _ _ hi=>wp_ret ⟨st,h,hi⟩
theorem za00 {id:Nat} (h:Q (.exit id) st):Wp Y G (.exit id) st Q:=fun _ _ hi=>wp_exit ⟨st,h,hi⟩
theorem za01 {c:Operand} {x y:Code} (b:Bool) (hc:(match c with | .tmp d=>st.slot d | .const v=>.val v | _=>.any)=.val (.bool b)) (ht:b=true→Wp Y G x st Q) (hf:b=false→Wp Y G y st Q) :
  Wp Y G (.cond c x y) st Q:=by
 intro a w hi
 have hv:a.eval c=.bool b:=by
  obtain ⟨nu,hn⟩:=hi
  cases c with
  | tmp d =>
   simp only at hc
   by_cases hd:d < st.n
   ·have:=hn.slots d hd
    rw[hc] at this
    simp only[Act.eval]
    generalize a.tmps.getD d undef=v at this
    cases this;rfl
   ·have:st.slot d=.any:=if_neg hd
    rw[this] at hc;cases hc
  | const v=>simp only[AV.val.injEq] at hc;exact hc
  | global g=>cases hc
  | func f=>cases hc
 exact wp_cond_split hv (fun e=>ht e a w hi) (fun e=>hf e a w hi)
theorem zaqm {c:Code} {Q':Exit→St→Prop} (h:Wp Y G c st Q) (hq:∀ e s,Q e s→Q' e s):Wp Y G c st Q' :=
 fun a w hi=>wp_mono (h a w hi) fun _ _ _ ⟨s,h1,h2⟩=>⟨s,hq _ _ h1,h2⟩
def zal7 (P:Program) (st:St):ResultVar→Option AV
 | .tmp t=>some (st.slot t)
 | .cell p T=>match st.slot p,zr P (isAgg T),zr P (sizeOf T) with
  | .ptr j off,some t,some n=>match st.blk j with
   | .cells _ cs=>if ((cs.drop off).take n).length=n∧(t=true∨n=1) then some (zq3 t ((cs.drop off).take n)) else none
   | _=>none
  | _,_,_=>none
def z4t (P:Program) (st:St):List ResultVar→Option (List AV)
 | []=>some []
 | r::l=>match zal7 P st r,z4t P st l with
  | some x,some xs=>some (x::xs)
  | _,_=>none
def tuple:List AV→AV
 | [x]=>x
 | l=>.tup l
def zahu (tmps:Array Value):ResultVar→Sem Value
 | .tmp t=>pure (tmps.getD t undef)
 | .cell p T=>do loadVar T (← asAddr (tmps.getD p undef))
theorem zanw {nu:Nat→Option Value} {a:Act} {w:World} (h:NInv G st nu a w) {r:ResultVar} {x:AV} (hr:zal7 Y.P st r=some x) :
  ∃ v,(zahu a.tmps r).run Y.P w=.ok v w∧Rd (cx G st.blks nu w) x v:=by
 have slot:∀ d,Rd (cx G st.blks nu w) (st.slot d) (a.tmps.getD d undef):=by
  intro d
  by_cases hd:d < st.n
  ·exact h.slots d hd
  ·have:st.slot d=.any:=if_neg hd
   rw[this];exact .any
 cases r with
 | tmp t =>
  simp only[zal7,yy1] at hr
  subst hr
  exact ⟨_,rfl,slot t⟩
 | cell p T =>
  simp only[zal7] at hr
  split at hr
  ·rename_i j off t n hp ht hn
   split at hr
   ·rename_i U cs hb
    split at hr
    ·rename_i hc
     simp only[yy1] at hr
     subst hr
     have hs:=slot p
     rw[hp] at hs
     have hk:=h.mem.ok j
     have hb':st.blks.getD j .dead=.cells U cs:=hb
     rw[hb'] at hk
     obtain ⟨b,vs,e1,e2,e3⟩:=hk
     generalize hv:a.tmps.getD p undef=v at hs
     cases hs with
     | @ptr _ _ b' e4 =>
      have:b=b':=by have:=e1.symm.trans e4;simpa using this
      subst this
      have h1:t=false→n=1:=fun ht=>hc.2.resolve_left (by simp[ht])
      have hr:Rds (cx G st.blks nu w) ((cs.drop off).take n) ((vs.drop off).take n):=(e3.drop off).take n
      have hrun:=zem (w:=w) ht hn ⟨b,off,none⟩ ((vs.drop off).take n) (by rw[hr.1];exact hc.1) h1 (fun i v hi=>by
       rw[zaq,cell_of_row w b (off+i) vs.toArray U (0,0) e2]
       have hin:i < n:=by have:=(List.getElem?_eq_some_iff.1 hi).1;simp at this;omega
       rw[List.getElem?_take_of_lt hin,List.getElem?_drop] at hi
       simpa using hi)
      refine ⟨_,?_,zkr hr (fun ht=>by rw[hc.1];exact h1 ht)⟩
      simp only[zahu,hv,asAddr,Sem.run_bind,Sem.run_pure',Sem.run_pure,Result.andThen_ok,hrun]
    ·cases hr
   ·cases hr
  ·cases hr
theorem zadx {nu:Nat→Option Value} {a:Act} {w:World} (h:NInv G st nu a w):∀ {l:List ResultVar} {xs:List AV},z4t Y.P st l=some xs →
  ∃ vs,(l.mapM (zahu a.tmps)).run Y.P w=.ok vs w∧Rds (cx G st.blks nu w) xs vs
 | [],xs,hr=>by
  simp only[z4t,yy1] at hr
  subst hr
  exact ⟨[],rfl,.nil⟩
 | r::l,xs,hr=>by
  simp only[z4t] at hr
  split at hr
  ·rename_i x xs' h1 h2
   simp only[yy1] at hr
   subst hr
   obtain ⟨v,e1,e2⟩:=zanw h h1
   obtain ⟨vs,e3,e4⟩:=zadx h h2
   exact ⟨v::vs,by simp[List.mapM_cons,e1,e3],.cons e2 e4⟩
  ·cases hr
theorem zaj7 {nu:Nat→Option Value} {a:Act} {w:World} (h:NInv G st nu a w) {fn:Func} {xs:List AV} (hr:z4t Y.P st fn.results.toList=some xs) :
  ∃ v,(results fn a.tmps).run Y.P w=.ok v w∧Rd (cx G st.blks nu w) (tuple xs) v:=by
 obtain ⟨vs,e1,e2⟩:=zadx h hr
 have e3:(results fn a.tmps).run Y.P w=.ok (if h:vs.toArray.size=1 then vs.toArray[0] else .tuple vs.toArray) w:=by
  have:results fn a.tmps=(do let vs ← fn.results.mapM (zahu a.tmps);pure (if h:vs.size=1 then vs[0] else .tuple vs)):=by
   unfold results zahu
   congr 1
  rw[this,Array.mapM_eq_mapM_toList]
  simp[e1]
 refine ⟨_,e3,?_⟩
 cases xs with
 | nil =>
  have:=e2.unnil
  subst this
  exact .tup rfl (fun i hi=>absurd hi (Nat.not_lt_zero i))
 | cons x xs =>
  obtain ⟨v,vs',rfl,e4,e5⟩:=e2.uncons
  cases xs with
  | nil =>
   have:=e5.unnil
   subst this
   simpa[tuple] using e4
  | cons y ys =>
   obtain ⟨u,us,rfl,e6,e7⟩:=e5.uncons
   rw[dif_neg (by simp)]
   exact .tup e2.1 e2.2
end rules
def za4v (x:AV):Bool:=x.clear fun _=>true
