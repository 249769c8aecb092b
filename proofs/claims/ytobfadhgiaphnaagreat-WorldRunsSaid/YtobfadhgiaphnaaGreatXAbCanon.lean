/-
  The walk over abstract states.
-/
import Derived.Test.YtobfadhgiaphnaaGreatXAbTree
namespace Go.Proofs.YtobfadhgiaphnaaGreat.Ab
open Go Go.RowKit
set_option linter.unusedSimpArgs false
set_option linter.unusedVariables false
mutual
def AV.re (f:Nat→Option Nat):AV→AV
 | .own i=>match f i with
  | some j=>.own j
  | none=>.any
 | .ptr i off=>match f i with
  | some j=>.ptr j off
  | none=>.any
 | .pix i b ix off=>match f i with
  | some j=>.pix j b ix off
  | none=>.any
 | .rptr i sz off k=>match f i with
  | some j=>.rptr j sz off k
  | none=>.any
 | .rpix i sz off k ix=>match f i with
  | some j=>.rpix j sz off k ix
  | none=>.any
 | .iface T i=>match f i with
  | some j=>.iface T j
  | none=>.any
 | .win i off len=>match f i with
  | some j=>.win j off len
  | none=>.any
 | .agg cs=>.agg (AV.reL f cs)
 | .tup cs=>.tup (AV.reL f cs)
 | .fn g cs=>.fn g (AV.reL f cs)
 | x=>x
def AV.reL (f:Nat→Option Nat):List AV→List AV
 | []=>[]
 | x::l=>AV.re f x::AV.reL f l
end
theorem zqc (f:Nat→Option Nat):∀ l,AV.reL f l=l.map (AV.re f)
 | []=>rfl
 | x::l=>by rw[AV.reL,List.map_cons,zqc f l]
theorem zayh (f:Nat→Option Nat) (t:Sl) (k c:Nat):(t.cell k c).re f=t.cell k c:=by
 have h:∀ x,x∈t.row k→x.re f=x:=by
  intro x hx
  cases t<;>simp only[Sl.row,Power.cells,Packet.cells,Wait.cells,Asked.cells,Ripe.cells,Deed.cells,Reply.cells,Order.cells,Carry.cells,List.mem_cons,List.mem_nil_iff,or_false,List.cons_append,List.nil_append] at hx <;>
   (repeat' (rcases hx with rfl | hx))<;>first | rfl | (subst hx;rfl)
 unfold Sl.cell
 by_cases hc:c < (t.row k).length
 ·rw[yy0,yy3 hc]
  exact h _ (List.getElem_mem hc)
 ·rw[yy0,List.getElem?_eq_none (by omega)];rfl
theorem Rd.rename {C C':Cx} {f:Nat→Option Nat} (hcell:∀ a v,¬ C.L a.block→C.w.cell? a=some v→C'.w.cell? a=some v∧¬ C'.L a.block)
  (hnu:∀ i j u,f i=some j→C.nu i=some u→C'.nu j=some u) {x:AV} {v:Value} (h:Rd C x v):Rd C' (x.re f) v:=by
 have key:∀ (cs:List AV) (vs:List Value),(∀ i,i < cs.length→Rd C' ((cs.getD i .any).re f) (vs.getD i undef))→∀ i,i < (AV.reL f cs).length→Rd C' ((AV.reL f cs).getD i .any) (vs.getD i undef):=by
  intro cs vs ih i hi
  rw[zqc] at hi ⊢
  rw[List.length_map] at hi
  rw[zo6 (AV.re f) cs i .any .any hi]
  exact ih i hi
 induction h with
 | any=>exact .any
 | val=>exact .val
 | agg hl _ ih=>rw[AV.re];exact .agg (by rw[zqc];simpa using hl) (key _ _ ih)
 | tup hl _ ih=>rw[AV.re];exact .tup (by rw[zqc];simpa using hl) (key _ _ ih)
 | fn hl _ ih=>rw[AV.re];exact .fn (by rw[zqc];simpa using hl) (key _ _ ih)
 | slnil h0=>exact .slnil h0
 | @sl t a cap g hm hc hcl hL _ ih =>
  refine .sl a cap g hm hc (fun k c hk hcc=>(hcell _ _ ?_ (hcl k c hk hcc)).1) (fun h0=>?_) (fun k c hk hc=>?_)
  ·rw[zau];exact hL (by omega)
  ·have:=(hcell _ _ (by rw[zau];exact hL h0) (hcl 0 0 h0 (zt3 t))).2
   rwa [zau] at this
  ·have:=ih k c hk hc
   rwa [zayh] at this
 | @own i v h =>
  rw[AV.re]
  split
  ·rename_i j e;exact .own (hnu _ _ _ e h)
  ·exact .any
 | @ptr i off b h =>
  rw[AV.re]
  split
  ·rename_i j e;exact .ptr (hnu _ _ _ e h)
  ·exact .any
 | pix h hi =>
  rw[AV.re]
  split
  ·rename_i j e;exact .pix (hnu _ _ _ e h) hi
  ·exact .any
 | rptr h hi =>
  rw[AV.re]
  split
  ·rename_i j e;exact .rptr (hnu _ _ _ e h) hi
  ·exact .any
 | rpix h hi hb =>
  rw[AV.re]
  split
  ·rename_i j e;exact .rpix (hnu _ _ _ e h) hi hb
  ·exact .any
 | iface h =>
  rw[AV.re]
  split
  ·rename_i j e;exact .iface (hnu _ _ _ e h)
  ·exact .any
 | win h =>
  rw[AV.re]
  split
  ·rename_i j e;exact .win (hnu _ _ _ e h)
  ·exact .any
 | @eptr t k off a g hs hL hcl hrd ih =>
  refine .eptr a g hs (fun h0=>?_) (fun c hc=>(hcell _ _ ?_ (hcl c hc)).1) (fun c hc=>?_)
  ·have:=(hcell _ _ (by rw[zau];exact hL h0) (hcl 0 (by omega))).2
   rwa [zau] at this
  ·rw[zau];exact hL (by omega)
  ·have:=ih c hc
   rwa [zayh] at this
theorem Rds.rename {C C':Cx} {f:Nat→Option Nat} (h:∀ x v,Rd C x v→Rd C' (x.re f) v) {cs:List AV} {vs:List Value} (hr:Rds C cs vs):Rds C' (AV.reL f cs) vs:=by
 refine ⟨by rw[zqc,List.length_map];exact hr.1,fun i hi=>?_⟩
 rw[zqc] at hi ⊢
 rw[List.length_map] at hi
 rw[zo6 (AV.re f) cs i .any .any hi]
 exact h _ _ (hr.2 i hi)
def Blk.re (f:Nat→Option Nat):Blk→Blk
 | .cells T cs=>.cells T (AV.reL f cs)
 | b=>b
def zph:List Nat→Nat→Option Nat
 | [],_=>none
 | x::l,i=>if i=x then some 0 else match zph l i with
  | some k=>some (k+1)
  | none=>none
theorem zado:∀ {m:List Nat} {i k:Nat},zph m i=some k→m[k]?=some i
 | [],i,k,h=>by cases h
 | x::l,i,k,h=>by
  simp only[zph] at h
  split at h
  ·rename_i e
   simp only[yy1] at h
   subst h;subst e;rfl
  ·split at h
   ·rename_i k' hk
    simp only[yy1] at h
    subst h
    simpa using zado hk
   ·cases h
def zae6:List Nat→List Nat→List Nat
 | acc,[]=>acc
 | acc,x::l=>if acc.contains x then zae6 acc l else zae6 (acc++[x]) l
theorem zsa:∀ {l acc:List Nat},acc.Nodup→(zae6 acc l).Nodup
 | [],_,h=>h
 | x::l,acc,h=>by
  simp only[zae6]
  split
  ·exact zsa h
  ·rename_i hx
   refine zsa (List.nodup_append.2 ⟨h,by simp,fun a ha b hb=>?_⟩)
   simp at hb;subst hb
   intro e;subst e
   simp at hx;exact hx ha
theorem zpi:∀ {l acc:List Nat} {k i:Nat},acc[k]?=some i→(zae6 acc l)[k]?=some i
 | [],_,_,_,h=>h
 | x::l,acc,k,i,h=>by
  simp only[zae6]
  split
  ·exact zpi h
  ·refine zpi ?_
   have hk:k < acc.length:=(List.getElem?_eq_some_iff.1 h).1
   rw[List.getElem?_append_left hk];exact h
def zad (m:List Nat) (N:Nat) (blks:List Blk):List Blk:=m.map (fun i=>(blks.getD i .dead).re (zph m))++List.replicate N .free
theorem z7y {m:List Nat} {N:Nat} {blks:List Blk} {k i:Nat} (h:m[k]?=some i):(zad m N blks).getD k .dead=(blks.getD i .dead).re (zph m):=by
 have hk:k < m.length:=(List.getElem?_eq_some_iff.1 h).1
 unfold zad
 rw[yy0,List.getElem?_append_left (by simpa using hk),List.getElem?_map,h]
 rfl
theorem zahk {m:List Nat} {N:Nat} {blks:List Blk} {k:Nat} (h:m[k]?=none):(zad m N blks).getD k .dead=.free∨(zad m N blks).getD k .dead=.dead:=by
 have hk:m.length≤k:=by simpa using h
 unfold zad
 rw[yy0,List.getElem?_append_right (by simpa using hk),List.getElem?_replicate]
 split
 ·exact .inl rfl
 ·exact .inr rfl
theorem zae7 (f:Nat→Option Nat) (b:Blk):(b.re f).live=b.live:=by cases b<;>rfl
theorem zn4 {m:List Nat} {N:Nat} {blks:List Blk} {nu:Nat→Option Value} {k:Nat} {v:Value} (hl:((zad m N blks).getD k .dead).live=true) (hv:(m[k]?).bind nu=some v) :
  ∃ i,m[k]?=some i∧(blks.getD i .dead).live=true∧nu i=some v:=by
 cases hk:m[k]? with
 | none=>rw[hk] at hv;cases hv
 | some i =>
  rw[hk] at hv
  rw[z7y hk,zae7] at hl
  exact ⟨i,rfl,hl,hv⟩
theorem z2x {G:Gl} {blks:List Blk} {nu:Nat→Option Value} {w:World} (hm:MInv G blks nu w) {m:List Nat} (hnd:m.Nodup) (N:Nat) {C':Cx} (hw:C'.w=w) (hn:C'.nu=fun k=>(m[k]?).bind nu)
  (hL:∀ b,C'.L b→(cx G blks nu w).L b) :
  (∀ k,BlkOk C' 0 k ((zad m N blks).getD k .dead)) ∧
  (∀ k k' v v' b,k≠k'→((zad m N blks).getD k .dead).live=true→((zad m N blks).getD k' .dead).live=true→C'.nu k=some v→C'.nu k'=some v'→zfq v=some b→zfq v'≠some b) ∧
  ∀ x v,Rd (cx G blks nu w) x v→Rd C' (x.re (zph m)) v:=by
 obtain ⟨w',L',nu'⟩:=C'
 simp only at hw hn hL
 subst hw
 subst hn
 have hcell:∀ a v,¬ (cx G blks nu w').L a.block→(cx G blks nu w').w.cell? a=some v→(⟨w',L',fun k=>(m[k]?).bind nu⟩:Cx).w.cell? a=some v∧¬ (⟨w',L',fun k=>(m[k]?).bind nu⟩:Cx).L a.block :=
  fun a v hl hc=>⟨hc,fun h=>hl (hL _ h)⟩
 have hnu:∀ i j u,zph m i=some j→(cx G blks nu w').nu i=some u→(⟨w',L',fun k=>(m[k]?).bind nu⟩:Cx).nu j=some u:=by
  intro i j u hj hu
  show (m[j]?).bind nu=some u
  rw[zado hj];exact hu
 have hrd:∀ x v,Rd (cx G blks nu w') x v→Rd ⟨w',L',fun k=>(m[k]?).bind nu⟩ (x.re (zph m)) v:=fun x v h=>Rd.rename hcell hnu h
 refine ⟨fun k=>?_,?_,hrd⟩
 ·cases hk:m[k]? with
  | none =>
   rcases zahk (N:=N) (blks:=blks) hk with e | e<;>rw[e]
   ·show (m[k]?).bind nu=none
    rw[hk];rfl
   ·trivial
  | some i =>
   rw[z7y hk]
   have hok:=hm.ok i
   have hnk:(m[k]?).bind nu=nu i:=by rw[hk];rfl
   generalize blks.getD i .dead=B at hok
   cases B with
   | dead=>trivial
   | free=>exact hnk.trans hok
   | cells T cs =>
    obtain ⟨b,vs,e1,e2,e3⟩:=hok
    exact ⟨b,vs,hnk.trans e1,e2,e3.rename hrd⟩
   | rows E s =>
    obtain ⟨v,vs,e1,e2,e3,e4⟩:=hok
    exact ⟨v,vs,hnk.trans e1,e2,fun k c hk hc=>(e3 k c hk hc).change (p:=fun _=>true) hcell (fun i u hi=>by cases hi) (zjv _ s k c hc),e4⟩
   | pub s =>
    obtain ⟨v,e1,e2⟩:=hok
    exact ⟨v,hnk.trans e1,hrd _ _ e2⟩
   | bit p q =>
    obtain ⟨b,e1,e2⟩:=hok
    exact ⟨b,hnk.trans e1,e2⟩
 ·intro k k' v v' b hne hl hl' hv hv' hb
  obtain ⟨i,k1,k2,k3⟩:=zn4 hl hv
  obtain ⟨i',k1',k2',k3'⟩:=zn4 hl' hv'
  refine hm.apart i i' v v' b (fun e=>hne ?_) k2 k2' k3 k3' hb
  subst e
  exact ((List.getElem?_inj (List.getElem?_eq_some_iff.1 k1).1 hnd).1 (k1.trans k1'.symm))
theorem MInv.canon {G:Gl} {blks:List Blk} {nu:Nat→Option Value} {w:World} (hm:MInv G blks nu w) {m:List Nat} (hnd:m.Nodup) (N:Nat) (hfix:∀ k v,G.fix k=some v→m[k]?=some k) :
  MInv G (zad m N blks) (fun k=>(m[k]?).bind nu) w∧∀ x v,Rd (cx G blks nu w) x v→Rd (cx G (zad m N blks) (fun k=>(m[k]?).bind nu) w) (x.re (zph m)) v:=by
 obtain ⟨h1,h2,h3⟩:=z2x hm hnd N (C':=cx G (zad m N blks) (fun k=>(m[k]?).bind nu) w) rfl rfl (by
  rintro b (h0 | ⟨k,u,h1,h2,h3⟩)
  ·exact .inl h0
  ·obtain ⟨i,_,k1,k2⟩:=zn4 h1 h2
   exact .inr ⟨i,u,k1,k2,h3⟩)
 refine ⟨⟨h1,h2,?_,hm.os,hm.tape,hm.output,hm.size,hm.block,?_⟩,h3⟩
 ·intro k v b hl hv hb
  obtain ⟨i,_,k2,k3⟩:=zn4 hl hv
  exact hm.low i v b k2 k3 hb
 ·intro k v hk
  show (m[k]?).bind nu=some v
  rw[hfix k v hk];exact hm.fix k v hk
mutual
def AV.ptrs:AV→List Nat
 | .ptr j _=>[j]
 | .pix j _ _ _=>[j]
 | .win j _ _=>[j]
 | .agg cs=>AV.ptrsL cs
 | .tup cs=>AV.ptrsL cs
 | .fn _ cs=>AV.ptrsL cs
 | _=>[]
def AV.ptrsL:List AV→List Nat
 | []=>[]
 | x::l=>AV.ptrs x++AV.ptrsL l
end
mutual
def AV.rws:AV→List Nat
 | .own j=>[j]
 | .rptr j _ _ _=>[j]
 | .rpix j _ _ _ _=>[j]
 | .iface _ j=>[j]
 | .agg cs=>AV.rwsL cs
 | .tup cs=>AV.rwsL cs
 | .fn _ cs=>AV.rwsL cs
 | _=>[]
def AV.rwsL:List AV→List Nat
 | []=>[]
 | x::l=>AV.rws x++AV.rwsL l
end
def zajz (bk:Nat→Blk):List Nat→List AV
 | []=>[]
 | i::m=>(match bk i with
  | .cells _ cs=>cs
  | _=>[])++zajz bk m
def zvz (L:Nat) (vals:List AV) (bk:Nat→Blk):List Nat :=
 let m1:=zae6 (List.range L) (AV.ptrsL vals)
 let m2:=zae6 m1 (AV.ptrsL (zajz bk m1))
 zae6 m2 (AV.rwsL vals++AV.rwsL (zajz bk m2))
theorem zzb (L:Nat) (vals:List AV) (bk:Nat→Blk):(zvz L vals bk).Nodup:=zsa (zsa (zsa List.nodup_range))
theorem zadp {L:Nat} {vals:List AV} {bk:Nat→Blk} {k:Nat} (h:k < L):(zvz L vals bk)[k]?=some k :=
 zpi (zpi (zpi (List.getElem?_range h)))
inductive Fx where
 | pub (d:Nat)
 | pubB (d:Nat)
 | pubN (j:Nat)
 | pubC (d c:Nat)
 | nilsl (d:Nat) (s:Sl)
 | nilown (d:Nat) (E:TypeId) (s:Sl)
 | nilcell (d c:Nat) (E:TypeId) (s:Sl)
 | nilagg (d c:Nat) (E:TypeId) (s:Sl)
def St.pubs (js:List Nat) (st:St):St:=js.foldl (fun s j=>s.publish j) st
def Fx.run (x:Fx) (st:St):St :=
 match x with
 | .pub d=>st.pubs (AV.owns (st.slot d))
 | .pubB d=>match st.slot d with
  | .ptr j _=>match st.blks.getD j .dead with
   | .cells _ cs=>st.pubs (AV.ownsL cs)
   | _=>st
  | _=>st
 | .pubN j=>match st.blks.getD j .dead with
  | .cells _ cs=>st.pubs (AV.ownsL cs)
  | _=>st
 | .pubC d c=>match st.slot d with
  | .ptr j _=>match st.blks.getD j .dead with
   | .cells _ cs=>st.pubs (AV.owns (cs.getD c .any))
   | _=>st
  | _=>st
 | .nilsl d s=>match st.slot d with
  | .val (.slice none 0 0)=>if s.len=0 then st.put d (.sl s) st.blks else st
  | _=>st
 | .nilown d E s=>match st.slot d with
  | .val (.slice none 0 0)=>match st.blks.getD (zpj st.blks) .dead with
   | .free=>if s.len=0 then st.put d (.own (zpj st.blks)) (st.blks.set (zpj st.blks) (.rows E s)) else st
   | _=>st
  | _=>st
 | .nilagg d c E s=>match st.slot d with
  | .agg cs=>match cs[c]? with
   | some (.val (.slice none 0 0))=>match st.blks.getD (zpj st.blks) .dead with
    | .free=>if s.len=0 then st.put d (.agg (cs.set c (.own (zpj st.blks)))) (st.blks.set (zpj st.blks) (.rows E s)) else st
    | _=>st
   | _=>st
  | _=>st
 | .nilcell d c E s=>match st.slot d with
  | .ptr j _=>match st.blks.getD j .dead with
   | .cells T cs=>match cs[c]? with
    | some (.val (.slice none 0 0))=>match st.blks.getD (zpj st.blks) .dead with
     | .free=>if s.len=0 then ⟨st.n,st.sl,(st.blks.set (zpj st.blks) (.rows E s)).set j (.cells T (cs.set c (.own (zpj st.blks))))⟩ else st
     | _=>st
    | _=>st
   | _=>st
  | _=>st
theorem MInv.recell {G:Gl} {blks:List Blk} {nu:Nat→Option Value} {w:World} (hm:MInv G blks nu w) {j:Nat} {T:TypeId} {cs cs':List AV} (hb:blks.getD j .dead=.cells T cs)
  (hcs:∀ vs,Rds (cx G blks nu w) cs vs→Rds (cx G blks nu w) cs' vs):MInv G (blks.set j (.cells T cs')) nu w∧(cx G blks nu w).Le (cx G (blks.set j (.cells T cs')) nu w):=by
 have hj:j < blks.length:=getD_lt' (fun e=>by rw[e] at hb;cases hb)
 have hat:(blks.set j (.cells T cs')).getD j .dead=.cells T cs':=z9 hj
 have hne:∀ k,k≠j→(blks.set j (.cells T cs')).getD k .dead=blks.getD k .dead:=fun k hk=>getD_set_ne (fun e=>hk e.symm)
 have hlive:∀ k,((blks.set j (.cells T cs')).getD k .dead).live=true→(blks.getD k .dead).live=true:=by
  intro k hl
  by_cases e:k=j
  ·subst e;rw[hb];rfl
  ·rwa [hne k e] at hl
 have hle:(cx G blks nu w).Le (cx G (blks.set j (.cells T cs')) nu w):=⟨fun _ _ _ h=>h,fun a v hl hc=>by
  rintro (h0 | ⟨k,u,h1,h2,h3⟩)
  ·exact hl (.inl h0)
  ·exact hl (.inr ⟨k,u,hlive k h1,h2,h3⟩),fun _ _ h=>h⟩
 refine ⟨⟨fun k=>?_,fun j j' v v' b hne h1 h2=>hm.apart j j' v v' b hne (hlive j h1) (hlive j' h2),fun j v b h1=>hm.low j v b (hlive j h1),hm.os,hm.tape,hm.output,hm.size,hm.block,hm.fix⟩,hle⟩
 have hok:=hm.ok k
 by_cases e:k=j
 ·subst e
  rw[hat]
  rw[hb] at hok
  obtain ⟨b,vs,e1,e2,e3⟩:=hok
  exact ⟨b,vs,e1,e2,(hcs vs e3).mono hle⟩
 ·rw[hne k e]
  exact hok.mono hle (fun _ _ _ _ _=>rfl) rfl
where
 getD_lt' {l:List Blk} {i:Nat} (h:l.getD i .dead≠.dead):i < l.length:=by
  rcases Nat.lt_or_ge i l.length with h1 | h1
  ·exact h1
  ·exact absurd (by rw[yy0,List.getElem?_eq_none h1];rfl) h
theorem Inv.nilcell {G:Gl} {st:St} {a:Act} {w:World} {j c id:Nat} {E T:TypeId} {s:Sl} {cs:List AV} (h0:s.len=0) (hb:st.blks.getD j .dead=.cells T cs) (hc:cs[c]?=some (.val (.slice none 0 0)))
  (hf:st.blks.getD id .dead=.free) (hi:Inv G st a w):Inv G ⟨st.n,st.sl,(st.blks.set id (.rows E s)).set j (.cells T (cs.set c (.own id)))⟩ a w:=by
 obtain ⟨nu,hn⟩:=hi
 obtain ⟨nu',k1,k2,k3⟩:=hn.mem.putRow (blks1:=st.blks) (old:=none) (row:=none) (w':=w) (E:=E) (s:=s) (v:=.slice none 0 0) (vs:=[]) hf rfl (fun _ _ _=>rfl) (fun _ h=>by cases h)
  (by rw[h0];exact World.ownsRow_nil w _ _ _) (by rw[h0];exact Nat.zero_le _) (fun _ _ k _ hk=>by omega) ⟨rfl,rfl,rfl,Nat.le_refl _,fun _ _ _=>rfl⟩ (fun _ h=>by cases h) (.inl rfl)
 have hne:j≠id:=fun e=>by rw[e,hf] at hb;cases hb
 have hb':(st.blks.set id (.rows E s)).getD j .dead=.cells T cs:=(getD_set_ne (fun e=>hne e.symm)).trans hb
 obtain ⟨m1,m2⟩:=k2.recell hb' (cs':=cs.set c (.own id)) (fun vs hr=>by
  obtain ⟨v,hv,hrv⟩:=hr.get c _ hc
  have:v=.slice none 0 0:=by cases hrv;rfl
  subst this
  have h1:=hr.set c (c:=.own id) (v:=.slice none 0 0) (.own k3)
  have hlt:c < vs.length:=(List.getElem?_eq_some_iff.1 hv).1
  have e:vs.set c (.slice none 0 0)=vs:=by
   rw[yy3 hlt] at hv
   simp only[yy1] at hv
   rw[← hv,List.set_getElem_self]
  rwa [e] at h1)
 exact ⟨nu',m1,hn.size,hn.defers,fun d hd=>((hn.slots d hd).mono k1).mono m2⟩
theorem Inv.nilagg {G:Gl} {st:St} {a:Act} {w:World} {d c id:Nat} {E:TypeId} {s:Sl} {cs:List AV} (h0:s.len=0) (hs:st.slot d=.agg cs) (hc:cs[c]?=some (.val (.slice none 0 0)))
  (hf:st.blks.getD id .dead=.free) (hi:Inv G st a w):Inv G (st.put d (.agg (cs.set c (.own id))) (st.blks.set id (.rows E s))) a w:=by
 obtain ⟨nu,hn⟩:=hi
 obtain ⟨nu',k1,k2,k3⟩:=hn.mem.putRow (blks1:=st.blks) (old:=none) (row:=none) (w':=w) (E:=E) (s:=s) (v:=.slice none 0 0) (vs:=[]) hf rfl (fun _ _ _=>rfl) (fun _ h=>by cases h)
  (by rw[h0];exact World.ownsRow_nil w _ _ _) (by rw[h0];exact Nat.zero_le _) (fun _ _ k _ hk=>by omega) ⟨rfl,rfl,rfl,Nat.le_refl _,fun _ _ _=>rfl⟩ (fun _ h=>by cases h) (.inl rfl)
 refine ⟨nu',k2,hn.size,hn.defers,fun i hl=>?_⟩
 rw[zafh (show i < st.n from hl)]
 split
 ·rename_i e;subst e
  have:=hn.slots i hl
  rw[hs] at this
  generalize a.tmps.getD i undef=v at this
  cases this with
  | @agg _ vs hvl hh =>
   have hr:Rds (cx G (st.blks.set id (.rows E s)) nu' w) cs vs:=(Rds.mk hvl hh).mono k1
   obtain ⟨v,hv,hrv⟩:=hr.get c _ hc
   have:v=.slice none 0 0:=by cases hrv;rfl
   subst this
   have h1:=hr.set c (c:=.own id) (v:=.slice none 0 0) (.own k3)
   have hlt:c < vs.length:=(List.getElem?_eq_some_iff.1 hv).1
   have e:vs.set c (.slice none 0 0)=vs:=by
    rw[yy3 hlt] at hv
    simp only[yy1] at hv
    rw[← hv,List.set_getElem_self]
   rw[e] at h1
   exact .agg h1.1 h1.2
 ·exact (hn.slots i hl).mono k1
def St.fix (fx:List Fx) (st:St):St:=fx.foldl (fun s x=>x.run s) st
theorem Inv.pubs {G:Gl} {a:Act} {w:World}:∀ (js:List Nat) {st:St},Inv G st a w→Inv G (st.pubs js) a w
 | [],_,h=>h
 | j::js,_,h=>Inv.pubs js (h.publish j)
theorem zap5 (j:Nat) (st:St):(st.publish j).n=st.n:=by unfold St.publish;split<;>rfl
theorem zahl:∀ (js:List Nat) (st:St),(st.pubs js).n=st.n
 | [],_=>rfl
 | j::js,st=>(zahl js (st.publish j)).trans (zap5 j st)
theorem Fx.run_inv {G:Gl} {a:Act} {w:World} {st:St} (x:Fx) (h:Inv G st a w):Inv G (x.run st) a w∧(x.run st).n=st.n:=by
 unfold Fx.run
 cases x with
 | pub d=>exact ⟨h.pubs _,zahl _ _⟩
 | pubB d =>
  simp only
  split
  ·split
   ·exact ⟨h.pubs _,zahl _ _⟩
   ·exact ⟨h,rfl⟩
  ·exact ⟨h,rfl⟩
 | pubN j =>
  simp only
  split
  ·exact ⟨h.pubs _,zahl _ _⟩
  ·exact ⟨h,rfl⟩
 | pubC d c =>
  simp only
  split
  ·split
   ·exact ⟨h.pubs _,zahl _ _⟩
   ·exact ⟨h,rfl⟩
  ·exact ⟨h,rfl⟩
 | nilsl d s =>
  simp only
  split
  ·rename_i hs
   split
   ·rename_i h0;exact ⟨h.nilsl d s h0 hs,rfl⟩
   ·exact ⟨h,rfl⟩
  ·exact ⟨h,rfl⟩
 | nilown d E s =>
  simp only
  split
  ·rename_i hs
   split
   ·rename_i hf
    split
    ·rename_i h0;exact ⟨h.nilown d _ E s h0 hs hf,rfl⟩
    ·exact ⟨h,rfl⟩
   ·exact ⟨h,rfl⟩
  ·exact ⟨h,rfl⟩
 | nilagg d c E s =>
  simp only
  split
  ·rename_i cs hs
   split
   ·rename_i hc
    split
    ·rename_i hf
     split
     ·rename_i h0;exact ⟨h.nilagg h0 hs hc hf,rfl⟩
     ·exact ⟨h,rfl⟩
    ·exact ⟨h,rfl⟩
   ·exact ⟨h,rfl⟩
  ·exact ⟨h,rfl⟩
 | nilcell d c E s =>
  simp only
  split
  ·split
   ·rename_i T cs hb
    split
    ·rename_i hc
     split
     ·rename_i hf
      split
      ·rename_i h0;exact ⟨h.nilcell h0 hb hc hf,rfl⟩
      ·exact ⟨h,rfl⟩
     ·exact ⟨h,rfl⟩
    ·exact ⟨h,rfl⟩
   ·exact ⟨h,rfl⟩
  ·exact ⟨h,rfl⟩
theorem Inv.fix {G:Gl} {a:Act} {w:World}:∀ (fx:List Fx) {st:St},Inv G st a w→Inv G (st.fix fx) a w∧(st.fix fx).n=st.n
 | [],_,h=>⟨h,rfl⟩
 | x::fx,st,h=>by
  obtain ⟨h1,h2⟩:=x.run_inv h
  obtain ⟨h3,h4⟩:=Inv.fix fx h1
  exact ⟨h3,h4.trans h2⟩
structure Pat where
 ds:List Nat
 fx:List Fx
def St.canon (N L:Nat) (p:Pat) (st:St):St :=
 let s:=st.fix p.fx
 let m:=zvz L (p.ds.map s.slot) s.blk
 ⟨st.n,p.ds.map (fun d=>(d,(s.slot d).re (zph m))),zad m N s.blks⟩
theorem Inv.canon {G:Gl} {a:Act} {w:World} {st:St} (h:Inv G st a w) {L:Nat} (hL:zanu G L) (N:Nat) (p:Pat):Inv G (st.canon N L p) a w:=by
 obtain ⟨⟨nu,hn⟩,hnn⟩:=h.fix p.fx
 have hnd:=zzb L (p.ds.map (st.fix p.fx).slot) (st.fix p.fx).blk
 obtain ⟨h1,h2⟩:=hn.mem.canon hnd N (fun k v hk=>zadp (hL k v hk))
 refine ⟨_,h1,hn.size.trans hnn,hn.defers,fun d hd=>?_⟩
 have hd':d < st.n:=hd
 have e:(st.canon N L p).slot d=if d∈p.ds then ((st.fix p.fx).slot d).re (zph (zvz L (p.ds.map (st.fix p.fx).slot) (st.fix p.fx).blk)) else .any :=
  (if_pos hd').trans (zal6 (fun d=>((st.fix p.fx).slot d).re (zph (zvz L (p.ds.map (st.fix p.fx).slot) (st.fix p.fx).blk))) p.ds d)
 rw[e]
 split
 ·exact h2 _ _ (hn.slots d (by rw[hnn];exact hd'))
 ·exact .any
structure LQ (α:Type) where
 P:List AV→Option (α×List AV)
 e:α→List AV
 ok:∀ l a r,P l=some (a,r)→∃ l1,l=l1++r∧NormL l1 (e a)
def LP.q {α:Type} (p:LP α):LQ α:=⟨p.P,p.e,p.ok⟩
def Par.q {α:Type} (p:Par α):LQ α:=(LP.one p).q
def LQ.nil:LQ Unit where
 P l:=some ((),l)
 e _:=[]
 ok l a r h:=by
  simp only[yy1,Prod.mk.injEq] at h
  exact ⟨[],by rw[h.2];rfl,.nil⟩
def LQ.seq {α β:Type} (p:LQ α) (q:LQ β):LQ (α×β) where
 P l:=match p.P l with
  | some (a,r)=>match q.P r with
   | some (b,r')=>some ((a,b),r')
   | none=>none
  | none=>none
 e ab:=p.e ab.1++q.e ab.2
 ok l ab r h:=by
  split at h
  ·rename_i a r1 h1
   split at h
   ·rename_i b r2 h2
    simp only[yy1,Prod.mk.injEq] at h
    obtain ⟨rfl,rfl⟩:=h
    obtain ⟨l1,rfl,n1⟩:=p.ok _ _ _ h1
    obtain ⟨l2,rfl,n2⟩:=q.ok _ _ _ h2
    exact ⟨l1++l2,(List.append_assoc _ _ _).symm,n1.append n2⟩
   ·cases h
  ·cases h
def LQ.map {α β:Type} (p:LQ α) (f:α→β) (g:β→α) (hfg:∀ a,g (f a)=a):LQ β where
 P l:=match p.P l with
  | some (a,r)=>some (f a,r)
  | none=>none
 e b:=p.e (g b)
 ok l b r h:=by
  split at h
  ·rename_i a r1 h1
   simp only[yy1,Prod.mk.injEq] at h
   obtain ⟨rfl,rfl⟩:=h
   rw[hfg]
   exact p.ok _ _ _ h1
  ·cases h
mutual
def AV.same:AV→AV→Bool
 | .own i,.own j=>i==j
 | .ptr i m,.ptr j n=>i==j&&m==n
 | .pix i b ix o,.pix j b' ix' o'=>i==j&&(b==b'&&(o==o'&&decide (ix=ix')))
 | .fn f cs,.fn g ds=>f==g&&AV.sameL cs ds
 | _,_=>false
def AV.sameL:List AV→List AV→Bool
 | [],[]=>true
 | x::l,y::m=>AV.same x y&&AV.sameL l m
 | _,_=>false
end
mutual
theorem zap6:∀ {x y:AV},x.same y=true→x=y
 | .own i,y,h=>by cases y<;>simp_all [AV.same]
 | .ptr i m,y,h=>by cases y<;>simp_all [AV.same]
 | .fn f cs,y,h=>by
  cases y with
  | fn g ds =>
   simp only[AV.same,yy7,beq_iff_eq] at h
   rw[h.1,zalz h.2]
  | _=>simp[AV.same] at h
 | .pix i b ix o,y,h=>by cases y<;>simp_all [AV.same]
 | .any,_,h | .val _,_,h | .agg _,_,h | .tup _,_,h | .sl _,_,h | .eptr _ _ _,_,h | .rptr _ _ _ _,_,h | .rpix _ _ _ _ _,_,h | .iface _ _,_,h | .win _ _ _,_,h=>by simp[AV.same] at h
theorem zalz:∀ {l m:List AV},AV.sameL l m=true→l=m
 | [],[],_=>rfl
 | x::l,y::m,h=>by
  simp only[AV.sameL,yy7] at h
  rw[zap6 h.1,zalz h.2]
 | [],_::_,h=>by simp[AV.sameL] at h
 | _::_,[],h=>by simp[AV.sameL] at h
end
def LQ.c (x:AV):LQ Unit where
 P l:=match l with
  | y::r=>if y.same x=true then some ((),r) else none
  | []=>none
 e _:=[x]
 ok l a r h:=by
  split at h
  ·rename_i y r'
   split at h
   ·rename_i hs
    simp only[yy1,Prod.mk.injEq] at h
    rw[zap6 hs,← h.2]
    exact ⟨[x],rfl,.cons .refl .nil⟩
   ·cases h
  ·cases h
def LQ.k {β:Type} (x:LQ Unit) (q:LQ β):LQ β:=(x.seq q).map (fun p=>p.2) (fun b=>((),b)) (fun _=>rfl)
def LQ.skipR {β:Type} (q:LQ β) (x:LQ Unit):LQ β:=(q.seq x).map (fun p=>p.1) (fun b=>(b,())) (fun _=>rfl)
def LQ.pix1 (j base len stride off:Nat):LQ Int where
 P l:=match l with
  | .pix j' b' [(n',s',i)] o'::r=>if j'=j∧b'=base∧n'=len∧s'=stride∧o'=off then some (i,r) else none
  | _=>none
 e i:=[.pix j base [(len,stride,i)] off]
 ok l a r h:=by
  split at h
  ·split at h
   ·rename_i hc
    simp only[yy1,Prod.mk.injEq] at h
    obtain ⟨rfl,rfl⟩:=h
    obtain ⟨rfl,rfl,rfl,rfl,rfl⟩:=hc
    exact ⟨[_],rfl,.cons .refl .nil⟩
   ·cases h
  ·cases h
def LQ.rptr (j sz off:Nat):LQ Int where
 P l:=match l with
  | .rptr j' z' o' i::r=>if j'=j∧z'=sz∧o'=off then some (i,r) else none
  | _=>none
 e i:=[.rptr j sz off i]
 ok l a r h:=by
  split at h
  ·split at h
   ·rename_i hc
    simp only[yy1,Prod.mk.injEq] at h
    obtain ⟨rfl,rfl⟩:=h
    obtain ⟨rfl,rfl,rfl⟩:=hc
    exact ⟨[_],rfl,.cons .refl .nil⟩
   ·cases h
  ·cases h
def LQ.agg {α:Type} (q:LQ α):LQ α where
 P l:=match l with
  | .agg cs::r=>match q.P cs with
   | some (a,[])=>some (a,r)
   | _=>none
  | _=>none
 e a:=[.agg (q.e a)]
 ok l a r h:=by
  split at h
  ·rename_i cs r'
   split at h
   ·rename_i b hb
    simp only[yy1,Prod.mk.injEq] at h
    obtain ⟨rfl,rfl⟩:=h
    obtain ⟨l1,e1,n1⟩:=q.ok _ _ _ hb
    rw[List.append_nil] at e1
    subst e1
    exact ⟨[.agg cs],rfl,.cons (.agg n1.1 n1.2) .nil⟩
   ·cases h
  ·cases h
inductive BS where
 | cells (T:TypeId) (n:Nat)
 | rows (E:TypeId)
 | gone
def zju:List BS→List Blk→Option (List AV)
 | [],_=>some []
 | .cells T n::ps,.cells T' cs::bs=>if T'=T∧cs.length=n then match zju ps bs with
   | some xs=>some (cs++xs)
   | none=>none
  else none
 | .rows E::ps,.rows E' s::bs=>if E'=E then match zju ps bs with
   | some xs=>some (.sl s::xs)
   | none=>none
  else none
 | .gone::ps,_::bs=>zju ps bs
 | _,_=>none
def zeg:List BS→List AV→List Blk
 | [],_=>[]
 | .cells T n::ps,l=>.cells T (l.take n)::zeg ps (l.drop n)
 | .rows E::ps,l=>(match l with
  | .sl s::_=>.rows E s
  | _=>.dead)::zeg ps (l.drop 1)
 | .gone::ps,l=>.dead::zeg ps l
inductive BN:Blk→Blk→Prop where
 | dead {b:Blk}:BN b .dead
 | same {b:Blk}:BN b b
 | cells {T:TypeId} {cs ds:List AV} (h:NormL cs ds):BN (.cells T cs) (.cells T ds)
theorem NormL.take {l m:List AV} (h:NormL l m) (n:Nat):NormL (l.take n) (m.take n):=by
 refine ⟨by simp[h.1],fun i hi=>?_⟩
 have h1:i < n:=by simp at hi;omega
 have h2:i < l.length:=by simp at hi;omega
 have:=h.2 i h2
 simp only[yy0,List.getElem?_take_of_lt h1] at this ⊢
 exact this
theorem NormL.drop {l m:List AV} (h:NormL l m) (n:Nat):NormL (l.drop n) (m.drop n):=by
 refine ⟨by simp[h.1],fun i hi=>?_⟩
 have h2:n+i < l.length:=by simp at hi;omega
 have:=h.2 (n+i) h2
 simp only[yy0,List.getElem?_drop] at this ⊢
 exact this
theorem zap7 {s:Sl} {y:AV} (h:Norm (.sl s) y):y=.sl s:=by cases h;rfl
theorem z1e:∀ {ps:List BS} {bs:List Blk} {xs ys:List AV},zju ps bs=some xs→NormL xs ys→∃ rest,bs.length=ps.length+rest∧∀ k,k < ps.length→BN (bs.getD k .dead) ((zeg ps ys).getD k .dead)
 | [],bs,xs,ys,h,hn=>⟨bs.length,by simp,fun k hk=>absurd hk (Nat.not_lt_zero k)⟩
 | .cells T n::ps,.cells T' cs::bs,xs,ys,h,hn=>by
  simp only[zju] at h
  split at h
  ·rename_i hc
   split at h
   ·rename_i zs hz
    simp only[yy1] at h
    subst h
    obtain ⟨rfl,rfl⟩:=hc
    have n1:=hn.take cs.length
    have n2:=hn.drop cs.length
    rw[List.take_left' rfl] at n1
    rw[List.drop_left' rfl] at n2
    obtain ⟨rest,h1,h2⟩:=z1e hz n2
    refine ⟨rest,by simp;omega,fun k hk=>?_⟩
    cases k with
    | zero=>exact .cells n1
    | succ k=>exact h2 k (by simpa using hk)
   ·cases h
  ·cases h
 | .rows E::ps,.rows E' s::bs,xs,ys,h,hn=>by
  simp only[zju] at h
  split at h
  ·rename_i hc
   split at h
   ·rename_i zs hz
    simp only[yy1] at h
    subst h
    subst hc
    cases ys with
    | nil=>have:=hn.1;simp at this
    | cons y ys =>
     have hy:y=.sl s:=zap7 (hn.2 0 (by simp))
     subst hy
     have n2:=hn.drop 1
     simp only[List.drop_one,List.tail_cons] at n2
     obtain ⟨rest,h1,h2⟩:=z1e hz n2
     refine ⟨rest,by simp;omega,fun k hk=>?_⟩
     cases k with
     | zero=>exact .same
     | succ k=>simpa[zeg] using h2 k (by simpa using hk)
   ·cases h
  ·cases h
 | .gone::ps,b::bs,xs,ys,h,hn=>by
  simp only[zju] at h
  obtain ⟨rest,h1,h2⟩:=z1e h hn
  refine ⟨rest,by simp;omega,fun k hk=>?_⟩
  cases k with
  | zero=>exact .dead
  | succ k=>simpa[zeg] using h2 k (by simpa using hk)
 | .cells _ _::_,[],_,_,h,_=>by simp[zju] at h
 | .rows _::_,[],_,_,h,_=>by simp[zju] at h
 | .gone::_,[],_,_,h,_=>by simp[zju] at h
 | .cells _ _::_,.dead::_,_,_,h,_ | .cells _ _::_,.free::_,_,_,h,_ | .cells _ _::_,.rows _ _::_,_,_,h,_ | .cells _ _::_,.pub _::_,_,_,h,_ | .cells _ _::_,.bit _ _::_,_,_,h,_=>by simp[zju] at h
 | .rows _::_,.dead::_,_,_,h,_ | .rows _::_,.free::_,_,_,h,_ | .rows _::_,.cells _ _::_,_,_,h,_ | .rows _::_,.pub _::_,_,_,h,_ | .rows _::_,.bit _ _::_,_,_,h,_=>by simp[zju] at h
theorem zh0:∀ (ps:List BS) (l:List AV),(zeg ps l).length=ps.length
 | [],_=>rfl
 | .cells _ _::ps,l=>by simp[zeg,zh0 ps]
 | .rows _::ps,l=>by simp[zeg,zh0 ps]
 | .gone::ps,l=>by simp[zeg,zh0 ps]
theorem MInv.weaken {G:Gl} {blks blks':List Blk} {nu:Nat→Option Value} {w:World} (hm:MInv G blks nu w) (h:∀ k,BN (blks.getD k .dead) (blks'.getD k .dead)) :
  MInv G blks' nu w∧∀ x v,Rd (cx G blks nu w) x v→Rd (cx G blks' nu w) x v:=by
 have hlive:∀ k,(blks'.getD k .dead).live=true→(blks.getD k .dead).live=true:=by
  intro k hl
  have:=h k
  generalize blks.getD k .dead=B at this
  generalize blks'.getD k .dead=B' at this hl
  cases this with
  | dead=>cases hl
  | same=>exact hl
  | cells=>rfl
 have hle:(cx G blks nu w).Le (cx G blks' nu w):=⟨fun _ _ _ h=>h,fun a v hl hc=>by
  rintro (h0 | ⟨k,u,h1,h2,h3⟩)
  ·exact hl (.inl h0)
  ·exact hl (.inr ⟨k,u,hlive k h1,h2,h3⟩),fun _ _ h=>h⟩
 refine ⟨⟨fun k=>?_,fun j j' v v' b hne h1 h2=>hm.apart j j' v v' b hne (hlive j h1) (hlive j' h2),fun j v b h1=>hm.low j v b (hlive j h1),hm.os,hm.tape,hm.output,hm.size,hm.block,hm.fix⟩,fun x v=>Rd.mono hle⟩
 have hok:=hm.ok k
 have:=h k
 generalize blks.getD k .dead=B at this hok
 generalize blks'.getD k .dead=B' at this
 cases this with
 | dead=>trivial
 | same=>exact hok.mono hle (fun _ _ _ _ _=>rfl) rfl
 | cells hn =>
  obtain ⟨b,vs,e1,e2,e3⟩:=hok
  exact ⟨b,vs,e1,e2,(e3.norm hn).mono hle⟩
abbrev LQ.v {α β:Type} (p:Par α) (q:LQ β):LQ (α×β):=LQ.seq (Par.q p) q
abbrev LQ.kp {β:Type} (i k:Nat) (q:LQ β):LQ β:=LQ.k (LQ.c (.ptr i k)) q
abbrev tabB:ByteArray:=⟨[0,1,2,2,3,3,3,3,4,4,4,4,4,4,4,4,5,5,5,5,5,5,5,5,5,5,5,5,5,5,5,5,6,6,6,6,6,6,6,6,6,6,6,6,6,6,6,6,6,6,6,6,6,6,6,6,6,6,6,6,6,6,6,6,7,7,7,7,7,7,7,7,7,7,7,7,7,7,7,7,7,7,7,7,7,7,7,7,7,7,7,7,7,7,7,7,7,7,7,7,7,7,7,7,7,7,7,7,7,7,7,7,7,7,7,7,7,7,7,7,7,7,7,7,7,7,7,7,8,8,8,8,8,8,8,8,8,8,8,8,8,8,8,8,8,8,8,8,8,8,8,8,8,8,8,8,8,8,8,8,8,8,8,8,8,8,8,8,8,8,8,8,8,8,8,8,8,8,8,8,8,8,8,8,8,8,8,8,8,8,8,8,8,8,8,8,8,8,8,8,8,8,8,8,8,8,8,8,8,8,8,8,8,8,8,8,8,8,8,8,8,8,8,8,8,8,8,8,8,8,8,8,8,8,8,8,8,8,8,8,8,8,8,8,8,8,8,8,8,8,8,8,8,8,8,8].toArray⟩
abbrev u2 {a0 a1:Type} {r:Type 1} (f:a0→a1→r) (s:a0×a1):r:=f s.1 s.2
abbrev u3 {a0 a1 a2:Type} {r:Type 1} (f:a0→a1→a2→r) (s:a0×a1×a2):r:=f s.1 s.2.1 s.2.2
abbrev u4 {a0 a1 a2 a3:Type} {r:Type 1} (f:a0→a1→a2→a3→r) (s:a0×a1×a2×a3):r:=f s.1 s.2.1 s.2.2.1 s.2.2.2
abbrev u5 {a0 a1 a2 a3 a4:Type} {r:Type 1} (f:a0→a1→a2→a3→a4→r) (s:a0×a1×a2×a3×a4):r:=f s.1 s.2.1 s.2.2.1 s.2.2.2.1 s.2.2.2.2
abbrev u6 {a0 a1 a2 a3 a4 a5:Type} {r:Type 1} (f:a0→a1→a2→a3→a4→a5→r) (s:a0×a1×a2×a3×a4×a5):r:=f s.1 s.2.1 s.2.2.1 s.2.2.2.1 s.2.2.2.2.1 s.2.2.2.2.2
abbrev u7 {a0 a1 a2 a3 a4 a5 a6:Type} {r:Type 1} (f:a0→a1→a2→a3→a4→a5→a6→r) (s:a0×a1×a2×a3×a4×a5×a6):r:=f s.1 s.2.1 s.2.2.1 s.2.2.2.1 s.2.2.2.2.1 s.2.2.2.2.2.1 s.2.2.2.2.2.2
abbrev u8 {a0 a1 a2 a3 a4 a5 a6 a7:Type} {r:Type 1} (f:a0→a1→a2→a3→a4→a5→a6→a7→r) (s:a0×a1×a2×a3×a4×a5×a6×a7):r:=f s.1 s.2.1 s.2.2.1 s.2.2.2.1 s.2.2.2.2.1 s.2.2.2.2.2.1 s.2.2.2.2.2.2.1 s.2.2.2.2.2.2.2
abbrev u9 {a0 a1 a2 a3 a4 a5 a6 a7 a8:Type} {r:Type 1} (f:a0→a1→a2→a3→a4→a5→a6→a7→a8→r) (s:a0×a1×a2×a3×a4×a5×a6×a7×a8):r:=f s.1 s.2.1 s.2.2.1 s.2.2.2.1 s.2.2.2.2.1 s.2.2.2.2.2.1 s.2.2.2.2.2.2.1 s.2.2.2.2.2.2.2.1 s.2.2.2.2.2.2.2.2
abbrev u10 {a0 a1 a2 a3 a4 a5 a6 a7 a8 a9:Type} {r:Type 1} (f:a0→a1→a2→a3→a4→a5→a6→a7→a8→a9→r) (s:a0×a1×a2×a3×a4×a5×a6×a7×a8×a9):r:=f s.1 s.2.1 s.2.2.1 s.2.2.2.1 s.2.2.2.2.1 s.2.2.2.2.2.1 s.2.2.2.2.2.2.1 s.2.2.2.2.2.2.2.1 s.2.2.2.2.2.2.2.2.1 s.2.2.2.2.2.2.2.2.2
abbrev u11 {a0 a1 a2 a3 a4 a5 a6 a7 a8 a9 a10:Type} {r:Type 1} (f:a0→a1→a2→a3→a4→a5→a6→a7→a8→a9→a10→r) (s:a0×a1×a2×a3×a4×a5×a6×a7×a8×a9×a10):r:=f s.1 s.2.1 s.2.2.1 s.2.2.2.1 s.2.2.2.2.1 s.2.2.2.2.2.1 s.2.2.2.2.2.2.1 s.2.2.2.2.2.2.2.1 s.2.2.2.2.2.2.2.2.1 s.2.2.2.2.2.2.2.2.2.1 s.2.2.2.2.2.2.2.2.2.2
abbrev u12 {a0 a1 a2 a3 a4 a5 a6 a7 a8 a9 a10 a11:Type} {r:Type 1} (f:a0→a1→a2→a3→a4→a5→a6→a7→a8→a9→a10→a11→r) (s:a0×a1×a2×a3×a4×a5×a6×a7×a8×a9×a10×a11):r:=f s.1 s.2.1 s.2.2.1 s.2.2.2.1 s.2.2.2.2.1 s.2.2.2.2.2.1 s.2.2.2.2.2.2.1 s.2.2.2.2.2.2.2.1 s.2.2.2.2.2.2.2.2.1 s.2.2.2.2.2.2.2.2.2.1 s.2.2.2.2.2.2.2.2.2.2.1 s.2.2.2.2.2.2.2.2.2.2.2
abbrev u13 {a0 a1 a2 a3 a4 a5 a6 a7 a8 a9 a10 a11 a12:Type} {r:Type 1} (f:a0→a1→a2→a3→a4→a5→a6→a7→a8→a9→a10→a11→a12→r) (s:a0×a1×a2×a3×a4×a5×a6×a7×a8×a9×a10×a11×a12):r:=f s.1 s.2.1 s.2.2.1 s.2.2.2.1 s.2.2.2.2.1 s.2.2.2.2.2.1 s.2.2.2.2.2.2.1 s.2.2.2.2.2.2.2.1 s.2.2.2.2.2.2.2.2.1 s.2.2.2.2.2.2.2.2.2.1 s.2.2.2.2.2.2.2.2.2.2.1 s.2.2.2.2.2.2.2.2.2.2.2.1 s.2.2.2.2.2.2.2.2.2.2.2.2
abbrev u14 {a0 a1 a2 a3 a4 a5 a6 a7 a8 a9 a10 a11 a12 a13:Type} {r:Type 1} (f:a0→a1→a2→a3→a4→a5→a6→a7→a8→a9→a10→a11→a12→a13→r) (s:a0×a1×a2×a3×a4×a5×a6×a7×a8×a9×a10×a11×a12×a13):r:=f s.1 s.2.1 s.2.2.1 s.2.2.2.1 s.2.2.2.2.1 s.2.2.2.2.2.1 s.2.2.2.2.2.2.1 s.2.2.2.2.2.2.2.1 s.2.2.2.2.2.2.2.2.1 s.2.2.2.2.2.2.2.2.2.1 s.2.2.2.2.2.2.2.2.2.2.1 s.2.2.2.2.2.2.2.2.2.2.2.1 s.2.2.2.2.2.2.2.2.2.2.2.2.1 s.2.2.2.2.2.2.2.2.2.2.2.2.2
abbrev u15 {a0 a1 a2 a3 a4 a5 a6 a7 a8 a9 a10 a11 a12 a13 a14:Type} {r:Type 1} (f:a0→a1→a2→a3→a4→a5→a6→a7→a8→a9→a10→a11→a12→a13→a14→r) (s:a0×a1×a2×a3×a4×a5×a6×a7×a8×a9×a10×a11×a12×a13×a14):r:=f s.1 s.2.1 s.2.2.1 s.2.2.2.1 s.2.2.2.2.1 s.2.2.2.2.2.1 s.2.2.2.2.2.2.1 s.2.2.2.2.2.2.2.1 s.2.2.2.2.2.2.2.2.1 s.2.2.2.2.2.2.2.2.2.1 s.2.2.2.2.2.2.2.2.2.2.1 s.2.2.2.2.2.2.2.2.2.2.2.1 s.2.2.2.2.2.2.2.2.2.2.2.2.1 s.2.2.2.2.2.2.2.2.2.2.2.2.2.1 s.2.2.2.2.2.2.2.2.2.2.2.2.2.2
abbrev u16 {a0 a1 a2 a3 a4 a5 a6 a7 a8 a9 a10 a11 a12 a13 a14 a15:Type} {r:Type 1} (f:a0→a1→a2→a3→a4→a5→a6→a7→a8→a9→a10→a11→a12→a13→a14→a15→r) (s:a0×a1×a2×a3×a4×a5×a6×a7×a8×a9×a10×a11×a12×a13×a14×a15):r:=f s.1 s.2.1 s.2.2.1 s.2.2.2.1 s.2.2.2.2.1 s.2.2.2.2.2.1 s.2.2.2.2.2.2.1 s.2.2.2.2.2.2.2.1 s.2.2.2.2.2.2.2.2.1 s.2.2.2.2.2.2.2.2.2.1 s.2.2.2.2.2.2.2.2.2.2.1 s.2.2.2.2.2.2.2.2.2.2.2.1 s.2.2.2.2.2.2.2.2.2.2.2.2.1 s.2.2.2.2.2.2.2.2.2.2.2.2.2.1 s.2.2.2.2.2.2.2.2.2.2.2.2.2.2.1 s.2.2.2.2.2.2.2.2.2.2.2.2.2.2.2
abbrev d4 {a0 a1 a2 a3 r:Type} (s:a0×a1×a2×a3×r):r:=s.2.2.2.2
abbrev d8 {a0 a1 a2 a3 a4 a5 a6 a7 r:Type} (s:a0×a1×a2×a3×a4×a5×a6×a7×r):r:=s.2.2.2.2.2.2.2.2
abbrev d12 {a0 a1 a2 a3 a4 a5 a6 a7 a8 a9 a10 a11 r:Type} (s:a0×a1×a2×a3×a4×a5×a6×a7×a8×a9×a10×a11×r):r:=s.2.2.2.2.2.2.2.2.2.2.2.2
abbrev d16 {a0 a1 a2 a3 a4 a5 a6 a7 a8 a9 a10 a11 a12 a13 a14 a15 r:Type} (s:a0×a1×a2×a3×a4×a5×a6×a7×a8×a9×a10×a11×a12×a13×a14×a15×r):r:=s.2.2.2.2.2.2.2.2.2.2.2.2.2.2.2.2
abbrev d20 {a0 a1 a2 a3 a4 a5 a6 a7 a8 a9 a10 a11 a12 a13 a14 a15 a16 a17 a18 a19 r:Type} (s:a0×a1×a2×a3×a4×a5×a6×a7×a8×a9×a10×a11×a12×a13×a14×a15×a16×a17×a18×a19×r):r:=s.2.2.2.2.2.2.2.2.2.2.2.2.2.2.2.2.2.2.2.2
abbrev d24 {a0 a1 a2 a3 a4 a5 a6 a7 a8 a9 a10 a11 a12 a13 a14 a15 a16 a17 a18 a19 a20 a21 a22 a23 r:Type} (s:a0×a1×a2×a3×a4×a5×a6×a7×a8×a9×a10×a11×a12×a13×a14×a15×a16×a17×a18×a19×a20×a21×a22×a23×r):r:=s.2.2.2.2.2.2.2.2.2.2.2.2.2.2.2.2.2.2.2.2.2.2.2.2
abbrev d28 {a0 a1 a2 a3 a4 a5 a6 a7 a8 a9 a10 a11 a12 a13 a14 a15 a16 a17 a18 a19 a20 a21 a22 a23 a24 a25 a26 a27 r:Type} (s:a0×a1×a2×a3×a4×a5×a6×a7×a8×a9×a10×a11×a12×a13×a14×a15×a16×a17×a18×a19×a20×a21×a22×a23×a24×a25×a26×a27×r):r:=s.2.2.2.2.2.2.2.2.2.2.2.2.2.2.2.2.2.2.2.2.2.2.2.2.2.2.2.2
abbrev d32 {a0 a1 a2 a3 a4 a5 a6 a7 a8 a9 a10 a11 a12 a13 a14 a15 a16 a17 a18 a19 a20 a21 a22 a23 a24 a25 a26 a27 a28 a29 a30 a31 r:Type} (s:a0×a1×a2×a3×a4×a5×a6×a7×a8×a9×a10×a11×a12×a13×a14×a15×a16×a17×a18×a19×a20×a21×a22×a23×a24×a25×a26×a27×a28×a29×a30×a31×r):r:=s.2.2.2.2.2.2.2.2.2.2.2.2.2.2.2.2.2.2.2.2.2.2.2.2.2.2.2.2.2.2.2.2
