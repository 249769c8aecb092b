/-
  The walk over abstract states.
-/
import Derived.Test.YtobfadhgiaphnaaGreatXAbCall
namespace Go.Proofs.YtobfadhgiaphnaaGreat.Ab
open Go Go.RowKit
set_option linter.unusedSimpArgs false
set_option linter.unusedVariables false
section main
variable {G:Gl} {blks:List Blk} {nu:Nat→Option Value} {w:World}
def zayl (blks:List Blk) (nu:Nat→Option Value) (m:List Nat) (b:Nat):Prop:=∃ i v,i∈m∧(blks.getD i .dead).live=true∧nu i=some v∧zfq v=some b
def lend (hm:MInv G blks nu w) (m:List Nat) (Lc:Nat):Gl where
 w0:=w
 L0 b:=G.L0 b∨(z4s blks nu b∧¬ zayl blks nu m b)
 A b:=zayl blks nu m b
 lt b hb:=by
  rcases hb with hb | ⟨⟨j,v,h1,h2,h3⟩,_⟩
  ·exact Nat.lt_of_lt_of_le (G.lt b hb) hm.size
  ·exact (hm.low j v b h1 h2 h3).1
 dis b hb:=by
  rintro (h0 | ⟨_,h0⟩)
  ·obtain ⟨i,v,_,h1,h2,h3⟩:=hb
   rcases (hm.low i v b h1 h2 h3).2 with k | k
   ·have:=G.lt b h0;omega
   ·exact G.dis b k h0
  ·exact h0 hb
 fix k:=if k < Lc then (m[k]?).bind nu else none
variable (hm:MInv G blks nu w) {m:List Nat} (hnd:m.Nodup) {Lc N:Nat}
include hnd
theorem zanp {ps:List BS} {xs ys:List AV} (hl:m.length=ps.length) (hf:zju ps (zad m 0 blks)=some xs) (hn:NormL xs ys) :
  MInv (lend hm m Lc) (zeg ps ys++List.replicate N Blk.free) (fun k=>(m[k]?).bind nu) w ∧
  ∀ x v,Rd (cx G blks nu w) x v→Rd (cx (lend hm m Lc) (zeg ps ys++List.replicate N Blk.free) (fun k=>(m[k]?).bind nu) w) (x.re (zph m)) v:=by
 obtain ⟨h1,h2,h3⟩:=z2x hm hnd N (C':=cx (lend hm m Lc) (zad m N blks) (fun k=>(m[k]?).bind nu) w) rfl rfl (by
  rintro b (h0 | ⟨k,u,h1,h2,h3⟩)
  ·exact h0.imp id (fun h=>h.1)
  ·obtain ⟨i,_,k1,k2⟩:=zn4 h1 h2
   exact .inr ⟨i,u,k1,k2,h3⟩)
 have hm':MInv (lend hm m Lc) (zad m N blks) (fun k=>(m[k]?).bind nu) w:=by
  refine ⟨h1,h2,?_,rfl,rfl,rfl,Nat.le_refl _,fun _ _ _=>rfl,?_⟩
  ·intro k v b hl hv hb
   obtain ⟨i,k1,k2,k3⟩:=zn4 hl hv
   exact ⟨(hm.low i v b k2 k3 hb).1,.inr ⟨i,v,List.mem_of_getElem? k1,k2,k3,hb⟩⟩
  ·intro k v hk
   show (m[k]?).bind nu=some v
   simp only[lend] at hk
   split at hk
   ·exact hk
   ·cases hk
 obtain ⟨k1,k2⟩:=hm'.weaken (zafx (N:=N) hl hf hn)
 exact ⟨k1,fun x v h=>k2 _ _ (h3 x v h)⟩
theorem zaqb {fb:List Blk} {nuc:Nat→Option Value} {w':World} {sb:List Blk} (hc:MInv (lend hm m Lc) sb nuc w') {m1:List Nat} (hnd1:m1.Nodup) (hfix1:∀ k,k < Lc→m1[k]?=some k)
  {psr:List BS} {zs ys:List AV} (hl1:m1.length=psr.length) (hf1:zju psr (zad m1 0 sb)=some zs) (hn1:NormL zs ys) (hfb:fb=zeg psr ys)
  (hLm:Lc≤m.length) (hLr:Lc≤psr.length) (hlive:∀ i,i∈m→(blks.getD i .dead).live=true) {id:Nat} (hfree:zri (fun j=>blks.getD j .dead) id (psr.length - Lc)=true)
  (hcell:∀ k,k < Lc→(fb.getD k .dead).live=true) :
  ∃ nu',(cx G blks nu w).Le (cx G (upd blks (z13 m Lc id (psr.length - Lc) fb)) nu' w')∧MInv G (upd blks (z13 m Lc id (psr.length - Lc) fb)) nu' w' ∧
   ∀ x v y,Rd (cx (lend hm m Lc) sb nuc w') x v→Norm (x.re (zph m1)) y→Rd (cx G (upd blks (z13 m Lc id (psr.length - Lc) fb)) nu' w') (y.re (z3b m Lc id)) v:=by
 have hfree':∀ i,id≤i→i < id+(psr.length - Lc)→blks.getD i .dead=.free:=zzi hfree
 have hnone:∀ i,id≤i→i < id+(psr.length - Lc)→nu i=none:=fun i k1 k2=>by
  have:=hm.ok i;rw[hfree' i k1 k2] at this;exact this
 have hmnew:∀ i,i∈m→¬ (id≤i∧i < id+(psr.length - Lc)):=fun i hi h=>by
  have h1:=hlive i hi
  rw[hfree' i h.1 h.2] at h1;cases h1
 let nu1:Nat→Option Value:=fun k=>(m1[k]?).bind nuc
 let nu':Nat→Option Value:=fun i=>if id≤i∧i < id+(psr.length - Lc) then nu1 (Lc+(i - id)) else nu i
 have hin:∀ i,id≤i∧i < id+(psr.length - Lc)→nu' i=nu1 (Lc+(i - id)):=fun i k=>if_pos k
 have hout:∀ i,¬ (id≤i∧i < id+(psr.length - Lc))→nu' i=nu i:=fun i k=>if_neg k
 have hmget:∀ k,k < Lc→∃ i,m[k]?=some i∧m.getD k 0=i∧i∈m:=fun k hk=>by
  have h1:k < m.length:=by omega
  exact ⟨m[k],yy3 h1,by rw[yy0,yy3 h1];rfl,List.getElem_mem h1⟩
 have hnu1:∀ k,k < Lc→∀ v,nu (m.getD k 0)=some v→nu1 k=some v:=fun k hk v hv=>by
  obtain ⟨i,h1,h2,h3⟩:=hmget k hk
  show (m1[k]?).bind nuc=some v
  rw[hfix1 k hk]
  refine hc.fix k v ?_
  show (if k < Lc then (m[k]?).bind nu else none)=some v
  rw[if_pos hk,h1,← h2];exact hv
 let bs:=z13 m Lc id (psr.length - Lc) fb
 have hkeys:bs.map (·.1)=(List.range Lc).map (fun k=>m.getD k 0)++(m.drop Lc++(List.range (psr.length - Lc)).map (fun k=>id+k)):=by
  simp only[bs,z13,List.map_append,List.map_map]
  congr 1
  congr 1
  rw[show ((fun (x:Nat×Blk)=>x.1) ∘ fun i=>((i,Blk.dead):Nat×Blk))=_root_.id from rfl,List.map_id]
 have htake:(List.range Lc).map (fun k=>m.getD k 0)=m.take Lc:=by
  apply List.ext_getElem?
  intro k
  rw[List.getElem?_map]
  by_cases hk:k < Lc
  ·obtain ⟨i,h1,h2,_⟩:=hmget k hk
   rw[List.getElem?_range hk,List.getElem?_take_of_lt hk,h1,← h2];rfl
  ·rw[List.getElem?_eq_none (by simpa using Nat.le_of_not_lt hk),List.getElem?_eq_none (by simp;omega)];rfl
 have hkeys':bs.map (·.1)=m++(List.range (psr.length - Lc)).map (fun k=>id+k):=by
  rw[hkeys,htake,← List.append_assoc,List.take_append_drop]
 have hknd:(bs.map (·.1)).Nodup:=by
  rw[hkeys',List.nodup_append]
  refine ⟨hnd,List.Pairwise.map _ (fun a b hab=>by omega) List.nodup_range,fun a ha b hb e=>?_⟩
  rw[List.mem_map] at hb
  obtain ⟨k,hk,rfl⟩:=hb
  rw[List.mem_range] at hk
  exact hmnew a ha ⟨by omega,by omega⟩
 have hch:∀ i,i∈bs.map (·.1)↔(i∈m∨(id≤i∧i < id+(psr.length - Lc))):=by
  intro i
  rw[hkeys',List.mem_append,List.mem_map]
  constructor
  ·rintro (h | ⟨k,hk,rfl⟩)
   ·exact .inl h
   ·rw[List.mem_range] at hk;exact .inr ⟨by omega,by omega⟩
  ·rintro (h | ⟨h1,h2⟩)
   ·exact .inl h
   ·exact .inr ⟨i - id,by rw[List.mem_range];omega,by omega⟩
 have hlt:∀ i,i∈bs.map (·.1)→i < blks.length:=by
  intro i hi
  rcases (hch i).1 hi with h | ⟨h1,h2⟩
  ·exact za1a (hlive i h)
  ·exact zaq7 (d:=Blk.dead) (fun e=>by rw[hfree' i h1 h2] at e;cases e)
 have hkeep:∀ i,¬ (i∈m∨(id≤i∧i < id+(psr.length - Lc)))→(upd blks bs).getD i .dead=blks.getD i .dead:=fun i hi =>
  z9f bs blks (fun p hp e=>hi ((hch i).1 (List.mem_map.2 ⟨p,hp,e⟩)))
 have hat:∀ i x,(i,x)∈bs→(upd blks bs).getD i .dead=x:=fun i x h=>zaq6 bs blks hknd i x h (hlt i (List.mem_map.2 ⟨_,h,rfl⟩))
 have hlent:∀ k,k < Lc→(upd blks bs).getD (m.getD k 0) .dead=(fb.getD k .dead).re (z3b m Lc id):=fun k hk =>
  hat _ _ (List.mem_append_left _ (List.mem_map.2 ⟨k,by simpa using hk,rfl⟩))
 have hdrop:∀ i,i∈m.drop Lc→(upd blks bs).getD i .dead=.dead:=fun i hi =>
  hat _ _ (List.mem_append_right _ (List.mem_append_left _ (List.mem_map.2 ⟨i,hi,rfl⟩)))
 have hnew:∀ i,id≤i∧i < id+(psr.length - Lc)→(upd blks bs).getD i .dead=(fb.getD (Lc+(i - id)) .dead).re (z3b m Lc id):=fun i hi =>
  hat _ _ (List.mem_append_right _ (List.mem_append_right _ (List.mem_map.2 ⟨i - id,by rw[List.mem_range];omega,by rw[show id+(i - id)=i by omega]⟩)))
 have hsplit:∀ i,i∈m→(∃ k,k < Lc∧i=m.getD k 0)∨i∈m.drop Lc:=by
  intro i hi
  rw[← List.take_append_drop Lc m,List.mem_append] at hi
  rcases hi with h | h
  ·rw[← htake,List.mem_map] at h
   obtain ⟨k,hk,rfl⟩:=h
   exact .inl ⟨k,by simpa using hk,rfl⟩
  ·exact .inr h
 obtain ⟨c1,c2,c3⟩:=z2x hc hnd1 0 (C':=⟨w',fun b=>(cx (lend hm m Lc) sb nuc w').L b,nu1⟩) rfl rfl (fun _ h=>h)
 have hbn:∀ k,BN ((zad m1 0 sb).getD k .dead) (fb.getD k .dead):=by
  intro k
  have:=zafx (N:=0) hl1 hf1 hn1 k
  simpa[hfb] using this
 have hsb:∀ k v,(fb.getD k .dead).live=true→nu1 k=some v→∃ j,m1[k]?=some j∧(sb.getD j .dead).live=true∧nuc j=some v:=fun k v hl hv=>zn4 (za09 (hbn k) hl) hv
 have hcl:∀ i v,(i∈m∨(id≤i∧i < id+(psr.length - Lc)))→((upd blks bs).getD i .dead).live=true→nu' i=some v →
   ∃ k,zaq5 m Lc id k=i∧k < psr.length∧(fb.getD k .dead).live=true∧nu1 k=some v:=by
  intro i v hi hl hv
  rcases hi with hi | hi
  ·rcases hsplit i hi with ⟨k,hk,rfl⟩ | hd
   ·rw[hlent k hk,zae7] at hl
    rw[hout _ (hmnew _ hi)] at hv
    exact ⟨k,by rw[zaq5,if_pos hk],by omega,hl,hnu1 k hk v hv⟩
   ·rw[hdrop i hd] at hl;cases hl
  ·rw[hnew i hi,zae7] at hl
   rw[hin i hi] at hv
   exact ⟨Lc+(i - id),by rw[zaq5,if_neg (by omega)];omega,by omega,hl,hv⟩
 have hLsub:∀ b,(cx G (upd blks bs) nu' w').L b→(cx (lend hm m Lc) sb nuc w').L b:=by
  rintro b (h0 | ⟨i,u,k1,k2,k3⟩)
  ·exact .inl (.inl h0)
  ·by_cases hi:i∈m∨(id≤i∧i < id+(psr.length - Lc))
   ·obtain ⟨k,q1,q2,q3,q4⟩:=hcl i u hi k1 k2
    obtain ⟨j,_,q5,q6⟩:=hsb k u q3 q4
    exact .inr ⟨j,u,q5,q6,k3⟩
   ·rw[hkeep i hi] at k1
    rw[hout i (fun h=>hi (.inr h))] at k2
    refine .inl (.inr ⟨⟨i,u,k1,k2,k3⟩,?_⟩)
    rintro ⟨i',u',q1,q2,q3,q4⟩
    exact hm.apart i i' u u' b (fun e=>hi (.inl (e ▸ q1))) k1 q2 k2 q3 k3 q4
 have hback:∀ (j k:Nat) (u:Value),z3b m Lc id j=some k→nu1 j=some u→(j < psr.length)→nu' k=some u:=by
  intro j k u hj hu hlt
  simp only[z3b,yy1] at hj
  subst hj
  unfold zaq5
  split
  ·rename_i hk
   obtain ⟨i,h1,h2,h3⟩:=hmget j hk
   rw[hout _ (by rw[h2];exact hmnew i h3)]
   cases hv:nu (m.getD j 0) with
   | some v =>
    have:=hnu1 j hk v hv
    rw[this] at hu;exact hu
   | none =>
    have hl:=hlive i h3
    have hok:=hm.ok i
    rw[h2] at hv
    generalize blks.getD i .dead=B at hok hl
    cases B with
    | cells T cs=>obtain ⟨b,vs,e1,_⟩:=hok;simp only[cx] at e1;rw[hv] at e1;cases e1
    | rows E s=>obtain ⟨v,vs,e1,_⟩:=hok;simp only[cx] at e1;rw[hv] at e1;cases e1
    | _=>cases hl
  ·rename_i hk
   rw[hin _ (by omega),show Lc+(id+(j - Lc) - id)=j by omega]
   exact hu
 have hnu1lt:∀ j u,nu1 j=some u→j < psr.length:=by
  intro j u hu
  rcases Nat.lt_or_ge j m1.length with h | h
  ·omega
  ·have:nu1 j=none:=by show (m1[j]?).bind nuc=none;rw[List.getElem?_eq_none h];rfl
   rw[this] at hu;cases hu
 have hcell':∀ a v,¬ (⟨w',fun b=>(cx (lend hm m Lc) sb nuc w').L b,nu1⟩:Cx).L a.block→(⟨w',fun b=>(cx (lend hm m Lc) sb nuc w').L b,nu1⟩:Cx).w.cell? a=some v →
   (cx G (upd blks bs) nu' w').w.cell? a=some v∧¬ (cx G (upd blks bs) nu' w').L a.block:=fun a v hl hc=>⟨hc,fun h=>hl (hLsub _ h)⟩
 have hnu2:∀ i k u,z3b m Lc id i=some k→nu1 i=some u→nu' k=some u:=fun i k u h1 h2=>hback i k u h1 h2 (hnu1lt i u h2)
 obtain ⟨m1',m2'⟩:=hm.step (w':=w') (blks':=upd blks bs) (nu':=nu') (fun i=>i∈m∨(id≤i∧i < id+(psr.length - Lc)))
  (fun i u hi=>by
   by_cases k:id≤i∧i < id+(psr.length - Lc)
   ·rw[hnone i k.1 k.2] at hi;cases hi
   ·rw[hout i k];exact hi)
  (fun b hb hn=>hc.block b hb (by
   rintro ⟨i,v,h1,h2,h3,h4⟩
   exact hn i v (.inl h1) h2 h3 h4))
  hc.size hc.os hc.tape hc.output (fun i hi=>hkeep i hi) (fun i hi=>hout i (fun h=>hi (.inr h)))
  (fun _ i hi=>by
   rcases hi with hi | hi
   ·rcases hsplit i hi with ⟨k,hk,rfl⟩ | hd
    ·rw[hlent k hk]
     have hb1:BlkOk ⟨w',fun b=>(cx (lend hm m Lc) sb nuc w').L b,nu1⟩ 0 k (fb.getD k .dead):=by
      have h1:=c1 k
      have h2:=hbn k
      generalize (zad m1 0 sb).getD k .dead=B at h1 h2
      generalize fb.getD k .dead=B' at h2
      cases h2 with
      | dead=>trivial
      | same=>exact h1
      | cells hn=>obtain ⟨b,vs,e1,e2,e3⟩:=h1;exact ⟨b,vs,e1,e2,e3.norm hn⟩
     refine zad3 (z3b m Lc id) hcell' hnu2 rfl ?_ hb1
     show nu' (m.getD k 0)=nu1 k
     rw[hout _ (hmnew _ hi)]
     cases hv:nu (m.getD k 0) with
     | some v=>exact (hnu1 k hk v hv).symm
     | none =>
      obtain ⟨i,h1,h2,h3⟩:=hmget k hk
      have hl:=hlive i h3
      have hok:=hm.ok i
      rw[h2] at hv
      generalize blks.getD i .dead=B at hok hl
      cases B with
      | cells T cs=>obtain ⟨b,vs,e1,_⟩:=hok;simp only[cx] at e1;rw[hv] at e1;cases e1
      | rows E s=>obtain ⟨v,vs,e1,_⟩:=hok;simp only[cx] at e1;rw[hv] at e1;cases e1
      | _=>cases hl
    ·rw[hdrop i hd];trivial
   ·rw[hnew i hi]
    have hb1:BlkOk ⟨w',fun b=>(cx (lend hm m Lc) sb nuc w').L b,nu1⟩ 0 (Lc+(i - id)) (fb.getD (Lc+(i - id)) .dead):=by
     have h1:=c1 (Lc+(i - id))
     have h2:=hbn (Lc+(i - id))
     generalize (zad m1 0 sb).getD (Lc+(i - id)) .dead=B at h1 h2
     generalize fb.getD (Lc+(i - id)) .dead=B' at h2
     cases h2 with
     | dead=>trivial
     | same=>exact h1
     | cells hn=>obtain ⟨b,vs,e1,e2,e3⟩:=h1;exact ⟨b,vs,e1,e2,e3.norm hn⟩
    exact zad3 (z3b m Lc id) hcell' hnu2 rfl (hin i hi) hb1)
  (fun i v b hi hl hv hb=>by
   obtain ⟨k,q1,q2,q3,q4⟩:=hcl i v hi hl hv
   obtain ⟨j,_,q5,q6⟩:=hsb k v q3 q4
   obtain ⟨r1,r2⟩:=hc.low j v b q5 q6 hb
   refine ⟨r1,r2.imp (fun q=>q) ?_⟩
   rintro ⟨i',u',s1,s2,s3,s4⟩
   exact ⟨i',u',.inl s1,s2,s3,s4⟩)
  (fun i i' v v' b hne hi hi' hl hl' hv hv' hb=>by
   obtain ⟨k,q1,q2,q3,q4⟩:=hcl i v hi hl hv
   obtain ⟨k',q1',q2',q3',q4'⟩:=hcl i' v' hi' hl' hv'
   obtain ⟨j,q0,q5,q6⟩:=hsb k v q3 q4
   obtain ⟨j',q0',q5',q6'⟩:=hsb k' v' q3' q4'
   refine hc.apart j j' v v' b (fun e=>hne ?_) q5 q5' q6 q6' hb
   subst e
   have:k=k':=(List.getElem?_inj (List.getElem?_eq_some_iff.1 q0).1 hnd1).1 (q0.trans q0'.symm)
   subst this
   exact q1.symm.trans q1')
 exact ⟨nu',m1',m2',fun x v y hx hy=>Rd.rename hcell' hnu2 ((c3 x v hx).norm hy)⟩
end main
theorem z2z:∀ {ps:List BS} {bs:List Blk} {xs ys:List AV},zju ps bs=some xs→NormL xs ys→∀ n k,k < n→n≤ps.length→(ps.take n).all (fun | .gone=>false | _=>true)=true→((zeg ps ys).getD k .dead).live=true
 | [],_,_,_,_,_,n,k,hk,hn,_=>by simp at hn;omega
 | _::_,_,_,_,_,_,0,k,hk,_,_=>by omega
 | .cells T q::ps,.cells T' cs::bs,xs,ys,h,hn,n+1,k,hk,hl,ha=>by
  simp only[zju] at h
  split at h
  ·rename_i hc
   split at h
   ·rename_i zs hz
    simp only[yy1] at h
    subst h
    obtain ⟨rfl,rfl⟩:=hc
    have n2:=hn.drop cs.length
    rw[List.drop_left' rfl] at n2
    simp only[List.take_succ_cons,List.all_cons,yy7] at ha
    cases k with
    | zero=>rfl
    | succ k=>exact z2z hz n2 n k (by omega) (by simpa using hl) ha.2
   ·cases h
  ·cases h
 | .rows E::ps,.rows E' s::bs,xs,ys,h,hn,n+1,k,hk,hl,ha=>by
  simp only[zju] at h
  split at h
  ·split at h
   ·rename_i zs hz
    simp only[yy1] at h
    subst h
    cases ys with
    | nil=>have:=hn.1;simp at this
    | cons y ys =>
     have hy:y=.sl s:=zap7 (hn.2 0 (by simp))
     subst hy
     have n2:=hn.drop 1
     simp only[List.drop_one,List.tail_cons] at n2
     simp only[List.take_succ_cons,List.all_cons,yy7] at ha
     cases k with
     | zero=>rfl
     | succ k=>simpa[zeg] using z2z hz n2 n k (by omega) (by simpa using hl) ha.2
   ·cases h
  ·cases h
 | .gone::ps,_,xs,ys,h,hn,n+1,k,hk,hl,ha=>by
  simp at ha
 | .cells _ _::_,[],_,_,h,_,_+1,_,_,_,_=>by simp[zju] at h
 | .rows _::_,[],_,_,h,_,_+1,_,_,_,_=>by simp[zju] at h
 | .cells _ _::_,.dead::_,_,_,h,_,_+1,_,_,_,_ | .cells _ _::_,.free::_,_,_,h,_,_+1,_,_,_,_ | .cells _ _::_,.rows _ _::_,_,_,h,_,_+1,_,_,_,_ | .cells _ _::_,.pub _::_,_,_,h,_,_+1,_,_,_,_ | .cells _ _::_,.bit _ _::_,_,_,h,_,_+1,_,_,_,_=>by simp[zju] at h
 | .rows _::_,.dead::_,_,_,h,_,_+1,_,_,_,_ | .rows _::_,.free::_,_,_,h,_,_+1,_,_,_,_ | .rows _::_,.cells _ _::_,_,_,h,_,_+1,_,_,_,_ | .rows _::_,.pub _::_,_,_,h,_,_+1,_,_,_,_ | .rows _::_,.bit _ _::_,_,_,h,_,_+1,_,_,_,_=>by simp[zju] at h
theorem zatp {Y:EnvT} {A:Ann} (hY:Y.Ok) (hmix:Y.P.follows .mixedOrders=true) {f:FuncId} {fn:Func} {c:Code} (hf:Y.P.funcs[f]?=some fn) (hb:fn.body=some c) {Lc:Nat}
  (hA:zzf Y.env Lc c A.cut) {α ρ:Type} (qa:LQ α) (na N:Nat) (ps:List BS) (T:α→Tr ρ) (d:ρ) (qr:LQ ρ) (nr:Nat) (psr:List BS) (fx:List Fx)
  (hna:na≤fn.ntmps) (hnr:fn.results.toList.length=nr) (hps:ps.all (fun | .gone=>false | _=>true)=true) (hLc:Lc≤ps.length) (hLr:Lc≤psr.length)
  (hpc:(psr.take Lc).all (fun | .gone=>false | _=>true)=true)
  (hT:∀ a,absC Y A c [] (zamj fn N qa na ps a) (za47 Y.P fn Lc fx qr psr)=T a):ze Y.P f (zm Lc qa na ps T d qr nr psr).spec:=by
 intro G blks nu w hm args vs hvs bk hbk id r hr hobl
 unfold SpecT.spec at hr
 split at hr
 ·rename_i cr hcr
  simp only[yy1] at hr
  subst hr
  unfold zm at hcr
  simp only at hcr
  split at hcr
  ·rename_i hlen
   obtain ⟨hna',hml⟩:=hlen
   split at hcr
   ·rename_i xs hflat
    split at hcr
    ·rename_i a hqa
     split at hcr
     ·rename_i hfree
      simp only[yy1] at hcr
      subst hcr
      have hrun:∃ r0,(T a).run=some r0:=Option.isSome_iff_exists.1 hobl.1
      obtain ⟨r0,hr0⟩:=hrun
      have hnd:=zzb 0 args bk
      generalize zvz 0 args bk=m at hml hflat hqa hnd
      have hlive:∀ i,i∈m→(blks.getD i .dead).live=true∧bk i=blks.getD i .dead:=by
       intro i hi
       obtain ⟨k,hk,rfl⟩:=List.getElem_of_mem hi
       have h1:=z1h hflat k (by omega)
       have h2:(ps.getD k .gone=.gone)=False:=by
        have hkp:k < ps.length:=by omega
        have:=List.all_eq_true.1 hps ps[k] (List.getElem_mem hkp)
        rw[yy0,yy3 hkp]
        simp only[yy2,eq_iff_iff,iff_false]
        intro e;rw[e] at this;cases this
       rw[h2,false_or,zo6 (fun i=>(bk i).re (zph m)) m k 0 .dead hk,zae7] at h1
       have h3:m.getD k 0=m[k]:=by rw[yy0,yy3 hk];rfl
       rw[h3] at h1
       rcases hbk m[k] with e | e
       ·exact ⟨by rw[← e];exact h1,e⟩
       ·rw[e] at h1;cases h1
      have hcan:(m.map fun i=>(bk i).re (zph m))=zad m 0 blks:=by
       unfold zad
       simp only[List.replicate_zero,List.append_nil]
       exact List.map_congr_left fun i hi=>by rw[(hlive i hi).2]
      rw[hcan] at hflat
      obtain ⟨l1,e1,hnorm⟩:=qa.ok _ _ _ hqa
      rw[List.append_nil] at e1
      rw[← e1] at hnorm
      obtain ⟨n1,n2,n3⟩:=z3a hnorm
      rw[zqc,List.length_map,hna'] at n1 n2 n3
      obtain ⟨s1,s2⟩:=zanp hm hnd (Lc:=Lc) (N:=N) hml hflat n3
      have hvl:vs.length=na:=hvs.1.trans hna'
      have hinit:Inv (lend hm m Lc) (zamj fn N qa na ps a) { tmps:=vs.toArray++Array.replicate (fn.ntmps - vs.toArray.size) undef,defers:=[] } w:=by
       refine ⟨_,s1,?_,rfl,fun i hi=>?_⟩
       ·show (vs.toArray++Array.replicate (fn.ntmps - vs.toArray.size) undef).size=fn.ntmps
        simp[hvl];omega
       ·have e2:(zamj fn N qa na ps a).slot i=lk ((List.range na).zip (qa.e a)) i:=if_pos hi
        rw[e2]
        rcases zaqy (fun d=>(args.getD d .any).re (zph m)) (List.range na) (qa.e a) (fun k hk=>by
         rw[List.length_range] at hk
         have:=n1 k hk
         rw[zo6 (AV.re (zph m)) args k .any .any (by omega)] at this
         rw[yy0 (l:=List.range na),List.getElem?_range hk]
         exact this) (by simpa using n2) i with ⟨k1,k2⟩ | ⟨k1,k2⟩
        ·rw[List.mem_range] at k1
         have hd:(vs.toArray++Array.replicate (fn.ntmps - vs.toArray.size) undef).getD i undef=vs.getD i undef:=by
          have:i < vs.length:=by omega
          simp[Array.getElem?_append,this]
         show Rd _ _ ((vs.toArray++Array.replicate (fn.ntmps - vs.toArray.size) undef).getD i undef)
         rw[hd]
         exact (s2 _ _ (hvs.2 i (by omega))).norm k2
        ·rw[k2];exact .any
      have hfl:zanu (lend hm m Lc) Lc:=by
       intro k v hk
       simp only[lend] at hk
       split at hk
       ·assumption
       ·cases hk
      have h3:=Tr.run_all _ hr0
      rw[← hT a] at h3
      refine calls_of_wp hf hb (wp_mono (zh1 hY hmix hfl hA c [] rfl _ _ h3 _ w hinit) fun e a' w' hq=>?_)
      obtain ⟨s,k1,k2⟩:=hq
      have fin:(match finF Y.P fn Lc fx qr psr s with | some r=>Tr.leaf r | none=>Tr.fail).all (fun x=>x=r0) →
        a'.defers=[]∧∃ v,(results fn a'.tmps).run Y.P w'=.ok v w'∧∃ u,Ending.returned v=.returned u ∧
         zln G blks nu w ⟨[(T a).run.isSome=true],(tuple ((qr.e r0).take nr)).re (z3b m Lc id),z13 m Lc id (psr.length - Lc) (zeg psr ((qr.e r0).drop nr))⟩ u w':=by
       intro hfin
       split at hfin
       ·rename_i r1 hr1
        have:r1=r0:=hfin
        subst this
        unfold finF at hr1
        simp only at hr1
        obtain ⟨⟨nuc,hs⟩,_⟩:=k2.fix fx
        split at hr1
        ·rename_i zs hres
         split at hr1
         ·rename_i hml1
          split at hr1
          ·rename_i ys hfl1
           split at hr1
           ·rename_i r2 hqr
            simp only[yy1] at hr1
            subst hr1
            obtain ⟨l2,e2,hnorm2⟩:=qr.ok _ _ _ hqr
            rw[List.append_nil] at e2
            rw[← e2] at hnorm2
            have hzl:zs.length=nr:=(z4x hres).trans hnr
            obtain ⟨o1,o2,o3⟩:=z3a hnorm2
            rw[zqc,List.length_map,hzl] at o1 o2 o3
            obtain ⟨v,v1,v2⟩:=zaj7 (Y:=Y.env) hs hres
            have hfb:zri (fun j=>blks.getD j .dead) id (psr.length - Lc)=true:=by
             have main:∀ n id,zri bk id n=true→zri (fun j=>blks.getD j .dead) id n=true:=by
              intro n
              induction n with
              | zero=>intro _ _;rfl
              | succ n ih =>
               intro id h
               have h0:bk id=.free:=zzi h id (Nat.le_refl _) (by omega)
               simp only[zri,yy7] at h ⊢
               refine ⟨?_,ih _ h.2⟩
               rcases hbk id with e | e
               ·rw[← e,h0]
               ·rw[h0] at e;cases e
             exact main _ _ hfree
            have hcells:∀ k,k < Lc→((zeg psr ((qr.e r2).drop nr)).getD k .dead).live=true:=by
             intro k hk
             exact z2z hfl1 o3 Lc k hk hLr hpc
            obtain ⟨nu',b1,b2,b3⟩:=zaqb hm hnd hs.mem (zzb Lc zs (s.fix fx).blk) (fun k hk=>zadp hk) hml1 hfl1 o3 rfl (by omega) hLr (fun i hi=>(hlive i hi).1) hfb hcells
            refine ⟨hs.defers,v,v1,v,rfl,nu',b1,b2,?_⟩
            refine b3 _ _ _ v2 ?_
            rw[zat1]
            refine zan2 ⟨?_,fun i hi=>?_⟩
            ·rw[zqc,List.length_map,List.length_take];omega
            ·rw[zqc,List.length_map,hzl] at hi
             have:=o1 i hi
             rw[zqc]
             rwa [yy0 (l:=(qr.e r2).take nr),List.getElem?_take_of_lt hi,← yy0]
           ·cases hr1
          ·cases hr1
         ·cases hr1
        ·cases hr1
       ·exact hfin.elim
      have hres:CR.res ⟨ρ,(T a).run,d,fun r=>(tuple ((qr.e r).take nr)).re (z3b m Lc id),fun r=>z13 m Lc id (psr.length - Lc) (zeg psr ((qr.e r).drop nr))⟩ =
        ⟨[(T a).run.isSome=true],(tuple ((qr.e r0).take nr)).re (z3b m Lc id),z13 m Lc id (psr.length - Lc) (zeg psr ((qr.e r0).drop nr))⟩:=by
       unfold CR.res;simp only[hr0,yy2]
      rw[hres]
      cases e with
      | ret=>exact fin k1
      | normal=>exact fin k1
      | exit id=>exact k1.elim
      | goto l=>exact k1.elim
      | panic ch=>exact k1.elim
      | outgrown=>exact k1.elim
     ·cases hcr
    ·cases hcr
   ·cases hcr
  ·cases hcr
 ·cases hr
def zw:List (FuncId×SpecT)→FuncId→Option SpecT
 | [],_=>none
 | p::l,f=>match Nat.beq f p.1 with
  | true=>some p.2
  | false=>zw l f
def zaym (P:Program):List (FuncId×SpecT)→Prop
 | []=>True
 | p::l=>ze P p.1 p.2.spec∧zaym P l
theorem zd {P:Program}:∀ {l:List (FuncId×SpecT)},zaym P l→(EnvT.mk P (zw l)).Ok
 | [],_,f,F,h=>by cases h
 | p::l,ht,f,F,h=>by
  simp only[EnvT.env,zw] at h
  split at h
  ·rename_i F' hF
   split at hF
   ·rename_i e
    simp only[yy1] at hF h
    subst hF;subst h
    rw[Nat.eq_of_beq_eq_true e]
    exact ht.1
   ·simp only[yy1] at h
    subst h
    have h2:(EnvT.mk P (zw l)).env.sp f=some F'.spec:=by simp only[EnvT.env,hF]
    exact zd ht.2 f _ h2
  ·cases h
def altT (F F':SpecT):SpecT:=fun args bk id=>match F args bk id with
 | some c=>some c
 | none=>F' args bk id
theorem zafd {P:Program} {f:FuncId} {F F':SpecT} (h:ze P f F.spec) (h':ze P f F'.spec):ze P f (altT F F').spec:=by
 intro G blks nu w hm args vs hvs bk hbk id r hr hobl
 unfold SpecT.spec altT at hr
 cases hF:F args bk id with
 | some c =>
  simp only[hF] at hr
  exact h G blks nu w hm args vs hvs bk hbk id r (by unfold SpecT.spec;rw[hF];exact hr) hobl
 | none =>
  simp only[hF] at hr
  exact h' G blks nu w hm args vs hvs bk hbk id r (by unfold SpecT.spec;exact hr) hobl
theorem sK {Y:EnvT} {A:Ann} (hY:Y.Ok) (hmix:Y.P.follows .mixedOrders=true) {f:FuncId} {fn:Func} {c:Code} (hf:Y.P.funcs[f]?=some fn) (hb:fn.body=some c) {Lc:Nat}
  (hA:zzf Y.env Lc c A.cut) {α ρ:Type} (qa:LQ α) (na N:Nat) (ps:List BS) (T:α→Tr ρ) (d:ρ) (qr:LQ ρ) (nr:Nat) (psr:List BS) (fx:List Fx)
  (hT:∀ a,absC Y A c [] (zamj fn N qa na ps a) (za47 Y.P fn Lc fx qr psr)=T a)
  (hna:na≤fn.ntmps:=by decide) (hnr:fn.results.toList.length=nr:=by kernel_rfl) (hps:ps.all (fun | .gone=>false | _=>true)=true:=by rfl) (hLc:Lc≤ps.length:=by decide) (hLr:Lc≤psr.length:=by decide)
  (hpc:(psr.take Lc).all (fun | .gone=>false | _=>true)=true:=by rfl):ze Y.P f (zm Lc qa na ps T d qr nr psr).spec :=
 zatp hY hmix hf hb hA qa na N ps T d qr nr psr fx hna hnr hps hLc hLr hpc hT
