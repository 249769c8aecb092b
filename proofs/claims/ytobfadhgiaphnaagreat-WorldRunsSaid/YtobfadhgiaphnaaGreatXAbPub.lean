/-
  The walk over abstract states.
-/
import Derived.Test.YtobfadhgiaphnaaGreatXAbSpec
namespace Go.Proofs.YtobfadhgiaphnaaGreat.Ab
open Go Go.RowKit
set_option linter.unusedSimpArgs false
set_option linter.unusedVariables false
mutual
def AV.pub (j:Nat) (s:Sl):AV→AV
 | .own i=>if i=j then .sl s else .own i
 | .agg cs=>.agg (AV.pubL j s cs)
 | .tup cs=>.tup (AV.pubL j s cs)
 | .fn f cs=>.fn f (AV.pubL j s cs)
 | x=>x
def AV.pubL (j:Nat) (s:Sl):List AV→List AV
 | []=>[]
 | x::l=>AV.pub j s x::AV.pubL j s l
end
theorem z4p (j:Nat) (s:Sl):∀ l,AV.pubL j s l=l.map (AV.pub j s)
 | []=>rfl
 | x::l=>by rw[AV.pubL,List.map_cons,z4p j s l]
theorem zaqc (j:Nat) (s t:Sl) (k c:Nat):(t.cell k c).pub j s=t.cell k c:=by
 have h:∀ x,x∈t.row k→x.pub j s=x:=by
  intro x hx
  cases t<;>simp only[Sl.row,Power.cells,Packet.cells,Wait.cells,Asked.cells,Ripe.cells,Deed.cells,Reply.cells,Order.cells,Carry.cells,List.mem_cons,List.mem_nil_iff,or_false] at hx <;>
   (repeat' (rcases hx with rfl | hx))<;>first | rfl | (subst hx;rfl)
 unfold Sl.cell
 by_cases hc:c < (t.row k).length
 ·rw[yy0,yy3 hc]
  exact h _ (List.getElem_mem hc)
 ·rw[yy0,List.getElem?_eq_none (by omega)];rfl
theorem Rd.publish {C C':Cx} {j:Nat} {s:Sl} (hcell:∀ a v,¬ C.L a.block→C.w.cell? a=some v→C'.w.cell? a=some v∧¬ C'.L a.block)
  (hnu:∀ i u,C.nu i=some u→C'.nu i=some u) (hj:∀ v,C.nu j=some v→Rd C' (.sl s) v) {x:AV} {v:Value} (h:Rd C x v):Rd C' (x.pub j s) v:=by
 have key:∀ (cs:List AV) (vs:List Value),(∀ i,i < cs.length→Rd C' ((cs.getD i .any).pub j s) (vs.getD i undef))→∀ i,i < (AV.pubL j s cs).length→Rd C' ((AV.pubL j s cs).getD i .any) (vs.getD i undef):=by
  intro cs vs ih i hi
  rw[z4p] at hi ⊢
  rw[List.length_map] at hi
  rw[zo6 (AV.pub j s) cs i .any .any hi]
  exact ih i hi
 induction h with
 | any=>exact .any
 | val=>exact .val
 | agg hl _ ih=>rw[AV.pub];exact .agg (by rw[z4p];simpa using hl) (key _ _ ih)
 | tup hl _ ih=>rw[AV.pub];exact .tup (by rw[z4p];simpa using hl) (key _ _ ih)
 | fn hl _ ih=>rw[AV.pub];exact .fn (by rw[z4p];simpa using hl) (key _ _ ih)
 | slnil h0=>exact .slnil h0
 | @sl t a cap g hm hc hcl hL _ ih =>
  refine .sl a cap g hm hc (fun k c hk hcc=>(hcell _ _ ?_ (hcl k c hk hcc)).1) (fun h0=>?_) (fun k c hk hc=>?_)
  ·rw[zau];exact hL (by omega)
  ·have:=(hcell _ _ (by rw[zau];exact hL h0) (hcl 0 0 h0 (zt3 t))).2
   rwa [zau] at this
  ·have:=ih k c hk hc
   rwa [zaqc] at this
 | @own i v h =>
  rw[AV.pub]
  split
  ·rename_i e;subst e;exact hj v h
  ·exact .own (hnu _ _ h)
 | @ptr j off b h=>exact .ptr (hnu _ _ h)
 | pix h hi=>exact .pix (hnu _ _ h) hi
 | rptr h hi=>exact .rptr (hnu _ _ h) hi
 | rpix h hi hb=>exact .rpix (hnu _ _ h) hi hb
 | iface h=>exact .iface (hnu _ _ h)
 | win h=>exact .win (hnu _ _ h)
 | @eptr t k off a g hs hL hcl hrd ih =>
  refine .eptr a g hs (fun h0=>?_) (fun c hc=>(hcell _ _ ?_ (hcl c hc)).1) (fun c hc=>?_)
  ·have:=(hcell _ _ (by rw[zau];exact hL h0) (hcl 0 (by omega))).2
   rwa [zau] at this
  ·rw[zau];exact hL (by omega)
  ·have:=ih c hc
   rwa [zaqc] at this
def Blk.pubAt (j:Nat) (s:Sl):Blk→Blk
 | .cells T cs=>.cells T (cs.map (AV.pub j s))
 | b=>b
def St.publish (j:Nat) (st:St):St :=
 match st.blks.getD j .dead with
 | .rows _ s=>⟨st.n,st.sl.map fun p=>(p.1,p.2.pub j s),(st.blks.map (Blk.pubAt j s)).set j .dead⟩
 | _=>st
theorem MInv.publish {G:Gl} {blks:List Blk} {nu:Nat→Option Value} {w:World} (hm:MInv G blks nu w) {j:Nat} {E:TypeId} {s:Sl} (hb:blks.getD j .dead=.rows E s) :
  MInv G ((blks.map (Blk.pubAt j s)).set j .dead) nu w∧∀ {x:AV} {v:Value},Rd (cx G blks nu w) x v→Rd (cx G ((blks.map (Blk.pubAt j s)).set j .dead) nu w) (x.pub j s) v:=by
 have hjl:j < blks.length:=by
  rcases Nat.lt_or_ge j blks.length with h1 | h1
  ·exact h1
  ·rw[yy0,List.getElem?_eq_none h1] at hb;cases hb
 have hdead:((blks.map (Blk.pubAt j s)).set j .dead).getD j .dead=.dead:=z9 (by simpa using hjl)
 have hoth:∀ i,i≠j→((blks.map (Blk.pubAt j s)).set j .dead).getD i .dead=(blks.getD i .dead).pubAt j s:=by
  intro i hij
  rw[getD_set_ne (fun e=>hij e.symm)]
  by_cases hl:i < blks.length
  ·exact zo6 _ _ _ _ _ hl
  ·rw[yy0,List.getElem?_eq_none (by simpa using hl),yy0,List.getElem?_eq_none (by omega)];rfl
 have hlive:∀ i,(((blks.map (Blk.pubAt j s)).set j .dead).getD i .dead).live=true→i≠j∧(blks.getD i .dead).live=true:=by
  intro i hl
  by_cases hij:i=j
  ·subst hij;rw[hdead] at hl;cases hl
  ·rw[hoth i hij] at hl
   refine ⟨hij,?_⟩
   generalize blks.getD i .dead=B at hl
   cases B<;>exact hl
 have hL:∀ b,z4s ((blks.map (Blk.pubAt j s)).set j .dead) nu b→z4s blks nu b:=by
  rintro b ⟨i,v,h1,h2,h3⟩
  exact ⟨i,v,(hlive i h1).2,h2,h3⟩
 have hcell:∀ x v,¬ (cx G blks nu w).L x.block→(cx G blks nu w).w.cell? x=some v→(cx G ((blks.map (Blk.pubAt j s)).set j .dead) nu w).w.cell? x=some v∧¬ (cx G ((blks.map (Blk.pubAt j s)).set j .dead) nu w).L x.block:=by
  intro x v hl hc
  exact ⟨hc,fun h=>hl (h.imp id (hL _))⟩
 have hok:=hm.ok j
 rw[hb] at hok
 obtain ⟨v0,vs,e1,e2,e3,e4⟩:=hok
 have hrows:∀ k c,k < s.len→c < s.sz→Rd (cx G ((blks.map (Blk.pubAt j s)).set j .dead) nu w) (s.cell k c) (vs.getD (k*s.sz+c) undef):=fun k c hk hc =>
  (e3 k c hk hc).change (p:=fun _=>true) hcell (fun i u hi=>by cases hi) (zjv _ s k c hc)
 have hj:∀ v,(cx G blks nu w).nu j=some v→Rd (cx G ((blks.map (Blk.pubAt j s)).set j .dead) nu w) (.sl s) v:=by
  intro v hv
  have:v=v0:=Option.some.inj (hv.symm.trans e1)
  subst this
  rcases e2.2 with ⟨rfl,h0⟩ | ⟨g,cap,cur,rfl,hbase,hg,hnc,hcm,hcs,htake⟩
  ·exact .slnil h0
  ·refine .sl ⟨g,0,none⟩ cap (fun k c=>vs.getD (k*s.sz+c) undef) e4 hnc (fun k c hk hc=>?_) (fun _=>?_) hrows
   ·have hlt:k*s.sz+c < vs.length:=by
     rw[e2.1]
     calc k*s.sz+c < k*s.sz+s.sz:=by omega
      _=(k+1)*s.sz:=by rw[Nat.add_mul,Nat.one_mul]
      _≤s.len*s.sz:=Nat.mul_le_mul_right _ hk
    exact e2.cells (g:=g) rfl _ _ (by rw[yy0,yy3 hlt];rfl)
   ·rintro (h0 | ⟨i,u,h1,h2,h3⟩)
    ·rcases (hm.low j _ g (by rw[hb];rfl) e1 rfl).2 with h1 | h1
     ·have:=G.lt g h0
      omega
     ·exact G.dis g h1 h0
    ·obtain ⟨h4,h5⟩:=hlive i h1
     exact hm.apart i j u _ g h4 h5 (by rw[hb];rfl) h2 e1 h3 rfl
 have hrd:∀ {x v},Rd (cx G blks nu w) x v→Rd (cx G ((blks.map (Blk.pubAt j s)).set j .dead) nu w) (x.pub j s) v:=fun h=>Rd.publish hcell (fun _ _ h=>h) hj h
 refine ⟨⟨fun i=>?_,fun i i' v v' b hne h1 h2=>?_,fun i v b h1=>?_,hm.os,hm.tape,hm.output,hm.size,hm.block,hm.fix⟩,hrd⟩
 ·by_cases hij:i=j
  ·subst hij;rw[hdead];trivial
  ·rw[hoth i hij]
   have hk:=hm.ok i
   generalize blks.getD i .dead=B at hk
   cases B with
   | dead=>trivial
   | free=>exact hk
   | cells T cs =>
    obtain ⟨b,us,k1,k2,k3⟩:=hk
    refine ⟨b,us,k1,k2,by rw[k3.1,List.length_map],fun q hq=>?_⟩
    rw[List.length_map] at hq
    rw[zo6 (AV.pub j s) cs q .any .any hq]
    exact hrd (k3.2 q hq)
   | rows F t =>
    obtain ⟨u,us,k1,k2,k3,k4⟩:=hk
    exact ⟨u,us,k1,k2,fun k c hkk hc=>(k3 k c hkk hc).change (p:=fun _=>true) hcell (fun i u hi=>by cases hi) (zjv _ t k c hc),k4⟩
   | pub t =>
    obtain ⟨u,k1,k2⟩:=hk
    exact ⟨u,k1,hrd k2⟩
   | bit p q=>exact hk
 ·exact hm.apart i i' v v' b hne (hlive i h1).2 (hlive i' h2).2
 ·exact hm.low i v b (hlive i h1).2
theorem Inv.publish {G:Gl} {st:St} {a:Act} {w:World} (j:Nat) (hi:Inv G st a w):Inv G (st.publish j) a w:=by
 obtain ⟨nu,hn⟩:=hi
 unfold St.publish
 split
 ·rename_i E s hb
  obtain ⟨h1,h2⟩:=hn.mem.publish hb
  refine ⟨nu,h1,hn.size,hn.defers,fun d hd=>?_⟩
  have e:(⟨st.n,st.sl.map fun p=>(p.1,p.2.pub j s),(st.blks.map (Blk.pubAt j s)).set j .dead⟩:St).slot d=(st.slot d).pub j s:=by
   unfold St.slot
   rw[if_pos hd,if_pos hd]
   exact zaqk (AV.pub j s) rfl _ _
  rw[e]
  exact h2 (hn.slots d hd)
 ·exact ⟨nu,hn⟩
theorem za4p {Y:Env} {G:Gl} {d:Nat} {x y:Code} {st:St} {Q:Exit→St→Prop} {p q:Prop} (j:Nat) (hs:st.slot d=.own j) (hb:st.blks.getD j .dead=.bit p q) (ht:p→Wp Y G x st Q) (hf:q→Wp Y G y st Q) :
  Wp Y G (.cond (.tmp d) x y) st Q:=by
 intro a w hi
 have hv:∃ b:Bool,a.eval (.tmp d)=.bool b∧(b=true→p)∧(b=false→q):=by
  obtain ⟨nu,hn⟩:=hi
  have hd:d < st.n:=by
   rcases Nat.lt_or_ge d st.n with h1 | h1
   ·exact h1
   ·rw[St.slot,if_neg (by omega)] at hs;cases hs
  have:=hn.slots d hd
  rw[hs] at this
  have hk:=hn.mem.ok j
  rw[hb] at hk
  obtain ⟨b,e1,e2⟩:=hk
  refine ⟨b,?_,e2⟩
  simp only[Act.eval]
  generalize a.tmps.getD d undef=v at this
  cases this with
  | own h2=>exact Option.some.inj (h2.symm.trans e1)
 obtain ⟨b,hb,h1,h2⟩:=hv
 exact wp_cond_split hb (fun e=>ht (h1 e) a w hi) (fun e=>hf (h2 e) a w hi)
def St.put (st:St) (d:Nat) (x:AV) (blks:List Blk):St:=⟨st.n,(d,x)::st.sl,blks⟩
theorem zafh {st:St} {d i:Nat} {x:AV} {blks:List Blk} (h:i < st.n):(st.put d x blks).slot i=if i=d then x else st.slot i:=by
 unfold St.slot St.put
 rw[if_pos h,if_pos h]
 rfl
theorem Inv.nilsl {G:Gl} {st:St} {a:Act} {w:World} (d:Nat) (s:Sl) (h0:s.len=0) (hs:st.slot d=.val (.slice none 0 0)) (hi:Inv G st a w):Inv G (st.put d (.sl s) st.blks) a w:=by
 obtain ⟨nu,hn⟩:=hi
 refine ⟨nu,hn.mem,hn.size,hn.defers,fun i hl=>?_⟩
 rw[zafh (show i < st.n from hl)]
 split
 ·rename_i e;subst e
  have:=hn.slots i hl
  rw[hs] at this
  generalize a.tmps.getD i undef=v at this
  cases this;exact .slnil h0
 ·exact hn.slots i hl
theorem Inv.nilown {G:Gl} {st:St} {a:Act} {w:World} (d j:Nat) (E:TypeId) (s:Sl) (h0:s.len=0) (hs:st.slot d=.val (.slice none 0 0)) (hf:st.blks.getD j .dead=.free) (hi:Inv G st a w) :
  Inv G (st.put d (.own j) (st.blks.set j (.rows E s))) a w:=by
 obtain ⟨nu,hn⟩:=hi
 obtain ⟨nu',k1,k2,k3⟩:=hn.mem.putRow (blks1:=st.blks) (old:=none) (row:=none) (w':=w) (E:=E) (s:=s) (v:=.slice none 0 0) (vs:=[]) hf rfl (fun _ _ _=>rfl) (fun _ h=>by cases h)
  (by rw[h0];exact World.ownsRow_nil w _ _ _) (by rw[h0];exact Nat.zero_le _) (fun _ _ k _ hk=>by omega) ⟨rfl,rfl,rfl,Nat.le_refl _,fun _ _ _=>rfl⟩ (fun _ h=>by cases h) (.inl rfl)
 refine ⟨nu',k2,hn.size,hn.defers,fun i hl=>?_⟩
 rw[zafh (show i < st.n from hl)]
 split
 ·rename_i e;subst e
  have:=hn.slots i hl
  rw[hs] at this
  generalize a.tmps.getD i undef=v at this
  cases this;exact .own k3
 ·exact (hn.slots i hl).mono k1
