/-
  The plain lemmas.
-/
import Derived.Test.YtiacgjebngnddaaGreatXAbInsert
import Derived.Test.YtiacgjebngnddaaGreatXFBank
import Derived.Test.YtiacgjebngnddaaGreatXFCodec
import Derived.Test.YtiacgjebngnddaaGreatXFCons
import Derived.Test.YtiacgjebngnddaaGreatXFLine
import Derived.Test.YtiacgjebngnddaaGreatXFProv
import Derived.Test.YtiacgjebngnddaaGreatXFStakeA
import Derived.Test.YtiacgjebngnddaaGreatXFStakeB
import Derived.Test.YtiacgjebngnddaaGreatXFTop
import Derived.Test.YtiacgjebngnddaaGreatXFWld
import Derived.Test.YtiacgjebngnddaaGreatXPlA
namespace Go.Proofs.YtiacgjebngnddaaGreat.Ab
open Go Go.RowKit
open Go.IntKind (i64 u64)
set_option linter.unusedVariables false
set_option linter.unusedSimpArgs false
def zs9 (l:List Power) (id now:Int):zb:=⟨true,false,0,now,id,l,[],[],⟨false,false,false,false,false,false⟩,⟨[],[],0,false⟩,⟨0,0,0,0⟩⟩
theorem zamq {l:List Power} {id now:Int} (hl:l.length*16≤140737488355328):zhu l id now=some (zs9 l id now):=by
 rw[zhu,zmx,Tr.rb (zafn hl),Tr.rl];rfl
def zy2 (c:zb) (s:List UInt8):zb×Int :=
 if zks c=false then (c,2) else if c.On=false then (c,4) else if (za7 s).2≠0 then (c,(za7 s).2) else if (za7 s).1.Kind≠1 then (c,3)
 else ({ c with Pending:=c.Pending++[(za7 s).1] },0)
theorem zark {c:zb} {a:ByteArray} (h:FitC 140737488351232 c) (ha:a.size≤140737488355328):ziz c a=some (zy2 c a.data.toList):=by
 have e1:ze0 a=some (za7 a.data.toList):=z9i (s:=a.data.toList) (by have:a.data.toList.length=a.size:=rfl;omega)
 have e2:=h.pend
 rw[ziz,zor,Tr.rb e1,Tr.rb (zsz h)]
 simp only[zafo (l:=c.Pending) (by omega),Option.isSome_some,yy2]
 unfold zy2
 cases hg:zks c with
 | false=>rw[Tr.rt (by rfl),Tr.rl,if_pos rfl]
 | true =>
  rw[Tr.rf (by rfl),if_neg (by simp)]
  cases ho:c.On with
  | false=>rw[Tr.rt (by rfl),Tr.rl,if_pos rfl]
  | true =>
   rw[Tr.rf (by rfl),if_neg (by simp)]
   by_cases hd:(za7 a.data.toList).2=0
   ·rw[Tr.rf (by simpa using hd),if_neg (by simpa using hd)]
    by_cases hk:(za7 a.data.toList).1.Kind=1
    ·rw[Tr.rf (by simpa using hk),if_neg (by simpa using hk),Tr.rg (by trivial),Tr.rg (by simp only[zeo,yy5];omega),Tr.rl]
    ·rw[Tr.rt (by simpa using hk),if_pos hk,Tr.rl]
   ·rw[Tr.rt (by simpa using hd),if_pos hd,Tr.rl]
def ztf (p:Packet) (now:Int) (c:zb):Int×zb :=
 if (zhl p).2≠0 then ((zhl p).2,c)
 else if (z7e c.Out (zhl p).1 (i64.wrap (now+40))).2≠0 then ((z7e c.Out (zhl p).1 (i64.wrap (now+40))).2,c)
 else (0,{ c with Out:=(z7e c.Out (zhl p).1 (i64.wrap (now+40))).1 })
theorem zadz {p:Packet} {now:Int} {c:zb} (h:(ztf p now c).1≠0):(ztf p now c).2=c:=by
 unfold ztf at h ⊢
 split
 ·rfl
 ·split
  ·rfl
  ·rename_i h1 h2
   rw[if_neg h1,if_neg h2] at h
   exact absurd rfl h
theorem z5q {p:Packet} {now:Int} {c:zb}:(ztf p now c).2.Ripes=c.Ripes:=by
 unfold ztf
 repeat' split
 all_goals rfl
theorem zad0 {p:Packet} {now:Int} {c:zb} (h1:p.Set.length*16≤140737488351232) (h2:p.Done.length*8≤140737488351232):zbh p now c=some (ztf p now c):=by
 rw[zbh,zqq,Tr.rb (z25 h1 h2)]
 unfold ztf
 by_cases he:(zhl p).2=0
 ·rw[if_neg (by simpa using he),Tr.rf (by simpa using he),Tr.rb (zaoj _ _ _)]
  by_cases hs:(z7e c.Out (zhl p).1 (i64.wrap (now+40))).2=0
  ·rw[if_neg (by simpa using hs),Tr.rf (by simpa using hs),Tr.rl]
  ·rw[if_pos hs,Tr.rt (by simpa using hs),Tr.rl]
 ·rw[if_pos he,Tr.rt (by simpa using he),Tr.rl]
def clrC (c:zb) (v:Int):zb:={ c with Flags:=c.Flags.set v false }
def z9v (c:zb) (l:List Int):zb:=l.foldl clrC c
theorem z3i:∀ (l:List Int) (c:zb),z9v c l={ c with Flags:=l.foldl (fun f v=>f.set v false) c.Flags }
 | [],c=>rfl
 | v::l,c=>by unfold z9v;rw[List.foldl_cons];exact (z3i l (clrC c v)).trans rfl
def zrw (now:Int) (c:zb) (p:Packet):zb :=
 { z9v { c with Set:=zyw c.Set p.Set,Id:=p.Id } p.Done with Ripes:=(z9v { c with Set:=zyw c.Set p.Set,Id:=p.Id } p.Done).Ripes++[⟨p.Id,i64.wrap (now+15)⟩] }
theorem z1i (now:Int) (c:zb) (p:Packet) :
  zrw now c p={ c with Set:=zyw c.Set p.Set,Id:=p.Id,Flags:=p.Done.foldl (fun f v=>f.set v false) c.Flags,Ripes:=c.Ripes++[⟨p.Id,i64.wrap (now+15)⟩] }:=by
 unfold zrw;rw[z3i]
def zp3 (now:Int):List Ripe→zb→zb
 | [],c=>c
 | r::rs,c=>if r.Due≤now then (if (ztf ⟨2,r.Id,0,0,[],[]⟩ now c).1≠0 then c else zp3 now rs { (ztf ⟨2,r.Id,0,0,[],[]⟩ now c).2 with Ripes:=rs }) else c
def z73 (now:Int) (c:zb):zb×Int :=
 if zks c=false then (c,2) else if c.On=false then (c,4) else if now < c.Time∨1099511627776 < now then (c,2)
 else (zp3 now (c.Pending.foldl (zrw now) { c with Height:=i64.wrap (c.Height+1),Time:=now }).Ripes { c.Pending.foldl (zrw now) { c with Height:=i64.wrap (c.Height+1),Time:=now } with Pending:=[] },0)
theorem zaxf {now x2 x3:Int} {x1:List Packet} {l:List Int} {c z:zb} {p:Packet} (hl:l.length≤9223372036854775807) (hv:∀ v,v∈l→0≤v∧v≤5) :
  zke now x1 x2 x3 l l.length 0 c z p=some (now,x1,x2,x3,z9v c l,z,p):=by
 rw[zke]
 refine zkp (F:=fun s:Int×(List Packet)×Int×Int×(List Int)×Int×Int×zb×zb×Packet=>(ze3 s.1 s.2.1 s.2.2.1 s.2.2.2.1 s.2.2.2.2.1 s.2.2.2.2.2.1 s.2.2.2.2.2.2.1 s.2.2.2.2.2.2.2.1 s.2.2.2.2.2.2.2.2.1 s.2.2.2.2.2.2.2.2.2).run) l 0
  (fun i t=>(now,x1,x2,x3,l,(l.length:Int),(i:Int),t,z,p)) (fun _ _=>True) clrC (fun t=>(now,x1,x2,x3,t,z,p)) ?_ ?_ c trivial
 ·intro t _
  simp only[ze3];rw[Tr.rf (by simp),Tr.rl]
 ·intro i t hi _
  have hm:=hv _ (zgv (l:=l) (k:=i) hi 0)
  refine ⟨?_,trivial⟩
  simp only[ze3,yy4]
  rw[Tr.rt (by simpa using hi),Tr.rg ⟨by omega,by rw[zhk];omega⟩,Tr.rg (by omega),Tr.rl,zq (by omega)]
  rfl
theorem z3j {l:List Packet} (h:l.all znf=true):∀ p,p∈l→zef p=0∧p.Kind=1∧(∀ v,v∈p.Done→0≤v∧v≤5):=by
 intro p hp
 have h1:=List.all_eq_true.1 h p hp
 unfold znf at h1
 simp only[yy7,beq_iff_eq] at h1
 obtain ⟨g1,g2,g3,g4,g5,g6,g7,g8,g9,g10,_,_⟩:=zn3 h1.2
 exact ⟨h1.2,h1.1,zu2 g10 (by omega)⟩
theorem zaxg {now:Int} {l:List Packet} {c z:zb} (hl:l.length≤9223372036854775807) (hg:l.all znf=true) (hs:c.Set.length≤9223372036854775807)
  (hp:∀ p,p∈l→p.Set.length*16≤140737488351232∧p.Done.length*8≤140737488351232) (hr:(c.Ripes.length+l.length)*16≤140737488355328) :
  zkf now l l.length 0 c z=some (now,l.foldl (zrw now) c,z):=by
 rw[zkf]
 refine zkp (F:=fun s:Int×(List Packet)×Int×Int×zb×zb=>(ze4 s.1 s.2.1 s.2.2.1 s.2.2.2.1 s.2.2.2.2.1 s.2.2.2.2.2).run) l default
  (fun i t=>(now,l,(l.length:Int),(i:Int),t,z)) (fun i t=>t.Ripes.length=c.Ripes.length+i∧t.Set.length≤9223372036854775807) (zrw now) (fun t=>(now,t,z)) ?_ ?_ c ⟨rfl,hs⟩
 ·intro t _
  simp only[ze4];rw[Tr.rf (by simp),Tr.rl]
 ·intro i t hi ht
  obtain ⟨t1,t2⟩:=ht
  have hm:=zgv (l:=l) (k:=i) hi default
  obtain ⟨p1,p2⟩:=hp _ hm
  obtain ⟨q1,q2,q3⟩:=z3j hg _ hm
  have hset:=z2y (fun v=>z9c (l.getD i default).Set v (zd7 t.Set v))
  refine ⟨?_,by rw[z1i];simp only[yy6,yy5];omega,by rw[z1i];unfold zyw;simp only[];omega⟩
  simp only[ze4,yy4]
  rw[Tr.rt (by simpa using hi),Tr.rg ⟨by omega,by rw[zeo];omega⟩,Tr.rb (zalv t2 (by omega)),Tr.rb (zaxf (by omega) q3)]
  simp only[]
  rw[Tr.rg (by simp only[zjs,yy5,z3i];omega),Tr.rl,zq (by omega)]
  rfl
theorem zaon {now:Int} {z:zb}:∀ (rs:List Ripe) (c:zb),c.Ripes=rs→zbv now c z=some (zp3 now rs c,z)
 | [],c,h=>by
  rw[zbv]
  refine zga ?_
  simp only[zdo,h]
  rw[Tr.rg (by simp),Tr.rf (by simp),Tr.rl]
  rfl
 | r::rs,c,h=>by
  have hlen:(Sl.len (.ripes (r::rs)))=rs.length+1:=rfl
  unfold zp3
  by_cases hd:r.Due≤now
  ·rw[if_pos hd]
   by_cases hs:(ztf ⟨2,r.Id,0,0,[],[]⟩ now c).1=0
   ·rw[if_neg (by simpa using hs),← zaon rs { (ztf ⟨2,r.Id,0,0,[],[]⟩ now c).2 with Ripes:=rs } rfl,zbv,zbv]
    refine zdw ?_
    simp only[zdo,h,List.getD_cons_zero,hlen,z5q]
    rw[Tr.rg (by intro _;exact ⟨⟨by omega,by omega⟩,trivial⟩),Tr.rt (by simp[hd]),Tr.rg (by omega),Tr.rb (zad0 (by simp) (by simp)),Tr.rf (by simpa using hs)]
    simp only[z5q,h,hlen]
    rw[Tr.rg (by omega),Tr.rl]
    simp only[List.drop_succ_cons,List.drop_zero,yy4,Nat.add_sub_cancel,List.take_length]
   ·rw[if_pos hs,zbv]
    refine zga ?_
    simp only[zdo,h,List.getD_cons_zero,hlen]
    rw[Tr.rg (by intro _;exact ⟨⟨by omega,by omega⟩,trivial⟩),Tr.rt (by simp[hd]),Tr.rg (by omega),Tr.rb (zad0 (by simp) (by simp)),Tr.rt (by simpa using hs),Tr.rl,zadz hs]
  ·rw[if_neg hd,zbv]
   refine zga ?_
   simp only[zdo,h,List.getD_cons_zero,hlen]
   rw[Tr.rg (by intro _;exact ⟨⟨by omega,by omega⟩,trivial⟩),Tr.rf (by simp[hd]),Tr.rl]
theorem zc3 {c:zb} (h:zks c=true):zab5 c∧zep c.Out∧z6 1 (-1) c.Set=true∧c.Ripes.all zkx=true∧c.Pending.all znf=true:=by
 unfold zks at h
 simp only[yy7,decide_eq_true_eq] at h
 exact ⟨h.1.1.1.1,h.1.1.1.2,h.1.1.2,h.1.2,h.2⟩
theorem zaxh {now:Int} {c:zb} (h:FitC 140737488351232 c) (hr:(c.Ripes.length+c.Pending.length)*16≤140737488355328):zz c now=some (z73 now c):=by
 have e1:=h.set;have e2:=h.pend;have e3:=h.ripes
 rw[zz,zqr,Tr.rb (zsz h)]
 unfold z73
 cases hg:zks c with
 | false=>rw[Tr.rt (by rfl),Tr.rl,if_pos rfl]
 | true =>
  obtain ⟨_,_,_,_,hp⟩:=zc3 hg
  rw[Tr.rf (by rfl),if_neg (by simp)]
  cases ho:c.On with
  | false=>rw[Tr.rt (by rfl),Tr.rl,if_pos rfl]
  | true =>
   rw[Tr.rf (by rfl),if_neg (by simp)]
   by_cases ht:now < c.Time∨1099511627776 < now
   ·rw[if_pos ht,Tr.rt (by simpa using ht),Tr.rl]
   ·rw[if_neg ht,Tr.rf (by simp;omega),Tr.rb (zafp (by omega))]
    rw[Tr.rb (zaxg (by omega) hp (by simp only[];omega) h.ps (by simp only[];omega))]
    simp only[]
    rw[Tr.rb (zaon _ _ rfl),Tr.rl]<;>first | rw[ho] | rfl
theorem zv6 {now:Int}:∀ (l:List Packet) (c:zb),(l.foldl (zrw now) c).Ripes.length=c.Ripes.length+l.length∧(l.foldl (zrw now) c).Out=c.Out∧(l.foldl (zrw now) c).On=c.On∧(l.foldl (zrw now) c).Gone=c.Gone∧(l.foldl (zrw now) c).Height=c.Height∧(l.foldl (zrw now) c).Time=c.Time
 | [],c=>⟨rfl,rfl,rfl,rfl,rfl,rfl⟩
 | p::l,c=>by
  rw[List.foldl_cons]
  obtain ⟨h1,h2,h3,h4,h5,h6⟩:=zv6 l (zrw now c p)
  rw[z1i] at h1 h2 h3 h4 h5 h6 ⊢
  refine ⟨?_,h2,h3,h4,h5,h6⟩
  rw[h1]
  show (c.Ripes++[(⟨p.Id,i64.wrap (now+15)⟩:Ripe)]).length+l.length=_
  rw[yy6,yy5,List.length_cons]
  omega
theorem z5r:∀ {l:List Power} {p v:Int},z6 1 p l=true→zd7 l v=0∨1≤zd7 l v
 | [],_,_,_=>.inl rfl
 | a::l,p,v,h=>by
  rw[z6] at h
  simp only[yy7,decide_eq_true_eq] at h
  unfold zd7
  split
  ·exact .inr h.1.1.2
  ·exact z5r h.2
def z9w (c:zb) (v now:Int):zb×Int :=
 if zks c=false∨now < 0∨1099511627776 < now then (c,2) else if c.On=false∨v < 0∨5 < v∨zd7 c.Set v=0 then (c,4) else if c.Flags.get v=true then (c,5)
 else if (ztf ⟨3,c.Id,v,zd7 c.Set v,[],[]⟩ now c).1≠0 then (c,(ztf ⟨3,c.Id,v,zd7 c.Set v,[],[]⟩ now c).1)
 else ({ (ztf ⟨3,c.Id,v,zd7 c.Set v,[],[]⟩ now c).2 with Flags:=(ztf ⟨3,c.Id,v,zd7 c.Set v,[],[]⟩ now c).2.Flags.set v true },0)
theorem zarl {c:zb} {v now:Int} (h:FitC 140737488351232 c):zea c v now=some (z9w c v now):=by
 have e1:=h.set
 have hsay:=fun n=>zad0 (p:=⟨3,c.Id,v,n,[],[]⟩) (now:=now) (c:=c) (by simp) (by simp)
 rw[zea,zot,Tr.rb (zsz h)]
 simp only[zady (l:=c.Set) (v:=v) (by omega),hsay,Option.isSome_some,yy2]
 unfold z9w
 by_cases h1:zks c=false∨now < 0∨1099511627776 < now
 ·rw[if_pos h1,Tr.rt (by simpa[or_assoc] using h1),Tr.rl]
 ·rw[if_neg h1,Tr.rf (by rw[Bool.eq_false_iff];intro k;apply h1;simpa[or_assoc] using k),Tr.rg (by simp)]
  by_cases h2:c.On=false∨v < 0∨5 < v∨zd7 c.Set v=0
  ·rw[if_pos h2,Tr.rt (by
    simp only[Bool.or_eq_true,Bool.not_eq_true',decide_eq_true_eq,beq_iff_eq]
    rcases h2 with h2 | h2 | h2 | h2
    ·exact .inl (.inl (.inl h2))
    ·exact .inl (.inl (.inr h2))
    ·exact .inl (.inr (by omega))
    ·exact .inr h2),Tr.rl]
  ·simp only[not_or] at h2
   rw[if_neg (by simp only[not_or];exact h2),Tr.rf (by
    simp only[Bool.or_eq_false_iff,Bool.not_eq_false',yy8,beq_eq_false_iff_ne]
    exact ⟨⟨⟨by simpa using h2.1,h2.2.1⟩,by omega⟩,h2.2.2.2⟩),Tr.rg (by omega)]
   by_cases h3:c.Flags.get v=true
   ·rw[if_pos h3,Tr.rt h3,Tr.rl]
   ·rw[if_neg h3,Tr.rf (by simpa using h3),Tr.rg (by trivial),Tr.rg (by trivial)]
    by_cases h4:(ztf ⟨3,c.Id,v,zd7 c.Set v,[],[]⟩ now c).1=0
    ·rw[if_neg (by simpa using h4),Tr.rf (by simpa using h4),Tr.rg (by omega),Tr.rl]
    ·rw[if_pos h4,Tr.rt (by simpa using h4),Tr.rl,zadz h4]
def maxC (c:zb) (v:Int):Int:=if zd7 c.Set v=0 then 1 else zd7 c.Set v
def zz2 (c:zb) (v id now:Int):zb×Int :=
 if zks c=false∨now < 0∨1099511627776 < now then (c,2) else if c.On=false∨v < 0∨5 < v then (c,4) else if id < 1∨c.Id < id then (c,2)
 else ((ztf ⟨4,id,v,maxC c v,[],[]⟩ now c).2,(ztf ⟨4,id,v,maxC c v,[],[]⟩ now c).1)
theorem zai3 {c:zb} {v id now:Int} (h:FitC 140737488351232 c):zcy c v id now=some (zz2 c v id now):=by
 have e1:=h.set
 rw[zcy,zlc,Tr.rb (zsz h)]
 unfold zz2
 by_cases h1:zks c=false∨now < 0∨1099511627776 < now
 ·rw[if_pos h1,Tr.rt (by simpa[or_assoc] using h1),Tr.rl]
 ·rw[if_neg h1,Tr.rf (by rw[Bool.eq_false_iff];intro k;apply h1;simpa[or_assoc] using k)]
  by_cases h2:c.On=false∨v < 0∨5 < v
  ·rw[if_pos h2,Tr.rt (by
    simp only[Bool.or_eq_true,Bool.not_eq_true',decide_eq_true_eq]
    rcases h2 with h2 | h2 | h2
    ·exact .inl (.inl h2)
    ·exact .inl (.inr h2)
    ·exact .inr (by omega)),Tr.rl]
  ·simp only[not_or] at h2
   rw[if_neg (by simp only[not_or];exact h2),Tr.rf (by
    simp only[Bool.or_eq_false_iff,Bool.not_eq_false',yy8]
    exact ⟨⟨by simpa using h2.1,h2.2.1⟩,by omega⟩)]
   by_cases h3:id < 1∨c.Id < id
   ·rw[if_pos h3,Tr.rt (by simpa using h3),Tr.rl]
   ·have hg:zks c=true:=by simp only[not_or] at h1;simpa using h1.1
    have hf:=z5r (v:=v) (zc3 hg).2.2.1
    have hm:(if zd7 c.Set v > 1 then zd7 c.Set v else 1)=maxC c v:=by
     unfold maxC
     rcases hf with hf | hf
     ·rw[if_neg (by omega),if_pos hf]
     ·rw[if_neg (show ¬ zd7 c.Set v=0 by omega)]
      split<;>omega
    rw[if_neg h3,Tr.rf (by simp;omega),Tr.rb (zady (by omega)),hm,Tr.rb (zad0 (by simp) (by simp))]
    by_cases h4:(ztf ⟨4,id,v,maxC c v,[],[]⟩ now c).1=0
    ·rw[Tr.rf (by simpa using h4),Tr.rl,h4]
    ·rw[Tr.rt (by simpa using h4),Tr.rl]
def zz3 (c:zb):zb:=if c.On=false then c else { c with On:=false,Gone:=true,Out:={ c.Out with Closed:=true } }
theorem z9x {c:zb}:zgs c=some (zz3 c):=by
 rw[zgs,zld]
 unfold zz3
 cases ho:c.On with
 | false=>rw[Tr.rt (by rfl),Tr.rl,if_pos rfl]
 | true=>rw[Tr.rf (by rfl),Tr.rl,if_neg (by simp)]
theorem zab6 {l:zcd} {s:ByteArray} {u:Int} (h:(z7e l s u).2=0):zep l∧0≤u∧l.Closed=false∧l.Said.length < 400∧z7e l s u=({ l with Said:=l.Said++[s],Due:=l.Due++[u] },0):=by
 unfold z7e at h ⊢
 by_cases h1:¬ zep l∨u < 0
 ·rw[if_pos h1] at h;cases h
 ·rw[if_neg h1] at h ⊢
  simp only[not_or,Classical.not_not] at h1
  by_cases h2:l.Closed=true
  ·rw[if_pos h2] at h;cases h
  ·rw[if_neg h2] at h ⊢
   by_cases h3:400≤l.Said.length
   ·rw[if_pos h3] at h;cases h
   ·rw[if_neg h3]
    exact ⟨h1.1,by omega,by simpa using h2,by omega,rfl⟩
theorem zamr {l:zcd} {s:ByteArray} {u:Int} (h1:zep l) (h2:0≤u) (h3:l.Closed=false) (h4:l.Said.length < 400):z7e l s u=({ l with Said:=l.Said++[s],Due:=l.Due++[u] },0):=by
 unfold z7e
 rw[if_neg (by simp only[not_or,Classical.not_not];exact ⟨h1,by omega⟩),if_neg (by rw[h3];simp),if_neg (by omega)]
theorem z5s {l:zcd} {s:ByteArray} {u:Int} (h1:zep l) (h2:0≤u) (h4:l.Said.length < 400):zep { l with Said:=l.Said++[s],Due:=l.Due++[u] }:=by
 obtain ⟨g1,g2,g3,g4,g5⟩:=h1
 refine ⟨by simp[g1],by simp only[yy6,yy5];omega,g3,by simp only[yy6,yy5];omega,?_⟩
 simp only[List.any_append,g5,Bool.false_or,List.any_cons,List.any_nil,Bool.or_false,yy8]
 omega
theorem zai4 {p:Packet} {now:Int} {c:zb} (h:(ztf p now c).1=0):zef p=0∧(z7e c.Out (txt (zvl p)) (i64.wrap (now+40))).2=0 ∧
  ztf p now c=(0,{ c with Out:={ c.Out with Said:=c.Out.Said++[txt (zvl p)],Due:=c.Out.Due++[i64.wrap (now+40)] } }):=by
 have hg:zef p=0:=by
  refine Classical.byContradiction fun hn=>?_
  unfold ztf at h
  rw[zabs hn,if_pos hn] at h
  exact hn h
 unfold ztf at h ⊢
 rw[zmm hg,if_neg (by simp)] at h ⊢
 simp only at h ⊢
 by_cases hs:(z7e c.Out (txt (zvl p)) (i64.wrap (now+40))).2=0
 ·rw[if_neg (by simpa using hs),(zab6 hs).2.2.2.2]
  exact ⟨hg,rfl,rfl⟩
 ·rw[if_pos hs] at h
  exact absurd h hs
theorem zams {p:Packet} {now:Int} {c:zb} (hg:zef p=0) (h1:zep c.Out) (h2:0≤i64.wrap (now+40)) (h3:c.Out.Closed=false) (h4:c.Out.Said.length < 400) :
  ztf p now c=(0,{ c with Out:={ c.Out with Said:=c.Out.Said++[txt (zvl p)],Due:=c.Out.Due++[i64.wrap (now+40)] } }):=by
 unfold ztf
 rw[zmm hg,if_neg (by simp)]
 simp only
 rw[zamr h1 h2 h3 h4,if_neg (by simp)]
theorem zp4 {c:zb} (h1:zab5 c) (h2:zep c.Out) (h3:z6 1 (-1) c.Set=true) (h4:c.Ripes.all zkx=true) (h5:c.Pending.all znf=true):zks c=true:=by
 unfold zks
 rw[decide_eq_true h1,decide_eq_true h2,h3,h4,h5];rfl
theorem zamt {now:Int} {c:zb} (h1:zks c=true) (h2:c.On=true) (h3:c.Time≤now) (h4:now≤1099511627776) :
  z73 now c=(zp3 now (c.Pending.foldl (zrw now) { c with Height:=i64.wrap (c.Height+1),Time:=now }).Ripes { c.Pending.foldl (zrw now) { c with Height:=i64.wrap (c.Height+1),Time:=now } with Pending:=[] },0):=by
 unfold z73
 rw[if_neg (by rw[h1];simp),if_neg (by rw[h2];simp),if_neg (by omega)]
theorem zamu {c:zb} {v now:Int} (h:(z9w c v now).2=0):zks c=true∧0≤now∧now≤1099511627776∧c.On=true∧0≤v∧v≤5∧zd7 c.Set v≠0∧(ztf ⟨3,c.Id,v,zd7 c.Set v,[],[]⟩ now c).1=0 ∧
  z9w c v now=({ (ztf ⟨3,c.Id,v,zd7 c.Set v,[],[]⟩ now c).2 with Flags:=(ztf ⟨3,c.Id,v,zd7 c.Set v,[],[]⟩ now c).2.Flags.set v true },0):=by
 unfold z9w at h ⊢
 by_cases h1:zks c=false∨now < 0∨1099511627776 < now
 ·rw[if_pos h1] at h;cases h
 ·rw[if_neg h1] at h ⊢
  by_cases h2:c.On=false∨v < 0∨5 < v∨zd7 c.Set v=0
  ·rw[if_pos h2] at h;cases h
  ·rw[if_neg h2] at h ⊢
   by_cases h3:c.Flags.get v=true
   ·rw[if_pos h3] at h;cases h
   ·rw[if_neg h3] at h ⊢
    by_cases h4:(ztf ⟨3,c.Id,v,zd7 c.Set v,[],[]⟩ now c).1=0
    ·rw[if_neg (by simpa using h4)]
     simp only[not_or] at h1 h2
     exact ⟨by simpa using h1.1,by omega,by omega,by simpa using h2.1,by omega,by omega,h2.2.2.2,h4,rfl⟩
    ·rw[if_pos h4] at h
     exact absurd h h4
theorem z3k:zep ⟨[],[],0,false⟩:=⟨rfl,by decide,by decide,by decide,by decide⟩
theorem zai5 {id:Int} (h1:1≤id) (h2:id≤1099511627776):zef ⟨2,id,0,0,[],[]⟩=0:=by
 unfold zef
 rw[if_neg (by simp),if_neg (by simp;omega),if_neg (by simp),if_neg (by simp[z6]),if_neg (by simp[zas])]
theorem zab7 {m p q:Int} {l:List Power} (h:z6 m q l=true) (hp:p≤q):z6 m p l=true:=by
 cases l with
 | nil=>rfl
 | cons a l =>
  simp only[z6,yy7,decide_eq_true_eq] at h ⊢
  exact ⟨⟨⟨⟨by omega,h.1.1.1.2⟩,h.1.1.2⟩,h.1.2⟩,h.2⟩
theorem zn4 {m p w n:Int} {s l:List Power} (hs:s=[]∨(s=[⟨w,n⟩]∧m≤n∧n≤1125899906842624)) (hp:p < w) (hw:w≤5) (hl:z6 m w l=true):z6 m p (s++l)=true:=by
 rcases hs with rfl | ⟨rfl,h1,h2⟩
 ·exact zab7 hl (by omega)
 ·simp only[List.cons_append,List.nil_append,z6,yy7,decide_eq_true_eq]
  exact ⟨⟨⟨⟨hp,hw⟩,h1⟩,h2⟩,hl⟩
theorem zz4 {w n:Int} (h:n≤1125899906842624):zyv w n=[]∨(zyv w n=[⟨w,n⟩]∧(1:Int)≤n∧n≤1125899906842624):=by
 unfold zyv
 by_cases hn:0 < n
 ·rw[if_pos hn];exact .inr ⟨rfl,by omega,h⟩
 ·rw[if_neg hn];exact .inl rfl
theorem zamv {f:Nat→Int} (h:∀ v,f v≤1125899906842624):z6 1 (-1) (zku f)=true:=by
 rw[z7d]
 exact zn4 (zz4 (h 0)) (by omega) (by omega) (zn4 (zz4 (h 1)) (by omega) (by omega) (zn4 (zz4 (h 2)) (by omega) (by omega) (zn4 (zz4 (h 3)) (by omega) (by omega)
  (zn4 (zz4 (h 4)) (by omega) (by omega) (zn4 (zz4 (h 5)) (by omega) (by omega) rfl)))))
abbrev ziv (L:Links) (c:Int):zcd:=⟨L.Said.get c,L.Due.get c,L.Got.get c,L.Closed.get c⟩
def z9y (p:za) (c:Int):Bool := !(p.Links.On.get c&&p.Links.Gone.get c)&&decide (0≤p.Links.Base.get c)&&decide (p.Links.Base.get c≤p.Height)&&z6 1 (-1) (p.Links.Told.get c)&&decide (zep (ziv p.Links c))&&zas (-1) (p.Links.Done.get c)
def zvm (p:za) (a:Asked):Bool:=decide (0≤a.C)&&decide (a.C < 2)&&p.Links.On.get a.C&&(zef a.P==0) && !(a.P.Kind==1)
def z0t (p:za):Prop:=0≤p.Height∧p.Height < 1099511627776∧0≤p.Time∧p.Time≤1099511627776
instance (p:za):Decidable (z0t p):=inferInstanceAs (Decidable (_∧_))
def zay (p:za):Bool:=decide (GoodS p.Stake)&&decide (z0t p)&&z6 1 (-1) p.Set&&z9y p 0&&z9y p 1&&p.Queue.all (zvm p)
structure FitPr (R:Nat) (p:za):Prop where
 waits:p.Stake.Waits.length*64≤R
 set:p.Set.length*16≤R
 told:∀ c,(p.Links.Told.get c).length*16≤R
 done:∀ c,(p.Links.Done.get c).length*8≤R
 said:∀ c,(p.Links.Said.get c).length*16≤R
 due:∀ c,(p.Links.Due.get c).length*8≤R
 queue:p.Queue.length*88≤R
 ps:∀ a,a∈p.Queue→a.P.Set.length*16≤R∧a.P.Done.length*8≤R
theorem FitPr.mono {R S:Nat} {p:za} (h:FitPr R p) (hr:R≤S):FitPr S p :=
 ⟨Nat.le_trans h.waits hr,Nat.le_trans h.set hr,fun c=>Nat.le_trans (h.told c) hr,fun c=>Nat.le_trans (h.done c) hr,fun c=>Nat.le_trans (h.said c) hr,fun c=>Nat.le_trans (h.due c) hr,Nat.le_trans h.queue hr,
  fun a ha=>⟨Nat.le_trans (h.ps a ha).1 hr,Nat.le_trans (h.ps a ha).2 hr⟩⟩
theorem zai6 {L:Links} {c:Int} {p:za} {k:Link} {l:List Int} (hp:k.Done=l) (hl:l.length≤9223372036854775807) :
  ∃ r,zov L c l l.length 0 p k=some r∧(match r with | .inl b=>b=false∧zas (-1) l=false | .inr x=>x=(L,c,p)∧zas (-1) l=true):=by
 have:=zr7 (F:=fun s:Links×Int×(List Int)×Int×Int×za×Link=>(zgt s.1 s.2.1 s.2.2.1 s.2.2.2.1 s.2.2.2.2.1 s.2.2.2.2.2.1 s.2.2.2.2.2.2).run)
  (fun s=>s.1=L∧s.2.1=c∧s.2.2.1=l∧s.2.2.2.1=l.length∧0≤s.2.2.2.2.1∧s.2.2.2.2.1≤l.length∧s.2.2.2.2.2.1=p∧s.2.2.2.2.2.2=k∧(0 < s.2.2.2.2.1→0≤znw l s.2.2.2.2.1)) (fun s=>l.length - s.2.2.2.2.1.toNat)
  (fun s r=>match r with | .inl b=>b=false∧zas (znw l s.2.2.2.2.1) (l.drop s.2.2.2.2.1.toNat)=false | .inr x=>x=(L,c,p)∧zas (znw l s.2.2.2.2.1) (l.drop s.2.2.2.2.1.toNat)=true) ?_ (L,c,l,(l.length:Int),0,p,k) ⟨rfl,rfl,rfl,rfl,by simp,by simp,rfl,rfl,by simp⟩
 ·exact this
 ·rintro ⟨y0,y1,x0,x1,x2,x3,x4⟩ ⟨g1,g2,h1,h2,h3,h4,h5,g3,h6⟩
  simp only at g1 g2 g3 h1 h2 h3 h4 h5 h6
  rw[g1,g2,g3,h1,h2,h5] at *
  simp only[zgt,hp]
  by_cases hc:x2 < l.length
  ·have hs:=zbj (l:=l) (k:=x2.toNat) (by omega) 0
   rw[Tr.rt (by simpa using hc),Tr.rg ⟨h3,hc⟩,Tr.rg (by
    intro h _
    simp only[decide_eq_true_eq] at h
    rw[zm (x:=x2 - 1) (by omega) (by omega)]
    exact ⟨⟨by omega,by simp only[Sl.len];omega⟩,trivial⟩)]
   rw[hs]
   have hp:(decide (x2 > 0)&&decide (l.getD (i64.wrap (x2 - 1)).toNat 0≥l.getD x2.toNat 0))=(decide (x2 > 0)&&decide (znw l x2≥l.getD x2.toNat 0)):=by
    by_cases h0:x2 > 0
    ·rw[zm (x:=x2 - 1) (by omega) (by omega)]
     unfold znw
     rw[if_neg (by omega)]
    ·simp[h0]
   rw[hp]
   generalize hq:l.getD x2.toNat 0=q at *
   by_cases hd:znw l x2 < q∧q≤5
   ·obtain ⟨d1,d2⟩:=hd
    have hw:i64.wrap (x2+1)=x2+1:=zm (by omega) (by omega)
    have hpv:znw l (x2+1)=q:=by unfold znw;rw[if_neg (by omega),show x2+1 - 1=x2 by omega,hq]
    have hq0:0≤q:=by
     by_cases h0:x2 > 0
     ·have:=h6 h0;omega
     ·have:znw l x2 = -1:=by unfold znw;rw[if_pos (by omega)]
      omega
    refine .inl ⟨_,by rw[Tr.rf (by simp;omega),Tr.rl,hw],⟨rfl,rfl,rfl,rfl,?_,?_,rfl,rfl,?_⟩,?_,?_⟩
    ·simp only[];omega
    ·simp only[];omega
    ·simp only[];rw[hpv];intro _;omega
    ·simp only[];omega
    ·simp only[]
     rw[hpv,show (x2+1).toNat=x2.toNat+1 by omega]
     intro r hr
     rw[zas,decide_eq_true d1,decide_eq_true d2]
     simpa using hr
   ·refine .inr ⟨_,by rw[Tr.rt (by
     by_cases h0:x2 > 0
     ·have:=h6 h0
      simp[h0];omega
     ·have:znw l x2 = -1:=by unfold znw;rw[if_pos (by omega)]
      simp[h0];omega),Tr.rl],?_⟩
    refine ⟨rfl,?_⟩
    rw[zas]
    simp only[Bool.and_eq_false_iff,yy8]
    omega
  ·refine .inr ⟨_,by rw[Tr.rf (by simpa using hc),Tr.rl],?_⟩
   refine ⟨rfl,?_⟩
   rw[List.drop_eq_nil_of_le (by omega)];rfl
theorem zamw {l:List Power} (hl:l.length≤9223372036854775807) :
  ∃ r,zpw l l l.length 0=some r∧(match r with | .inl b=>b=false∧z6 1 (-1) l=false | .inr x=>z6 1 (-1) l=true):=by
 have:=zr7 (F:=fun s:(List Power)×(List Power)×Int×Int=>(zhv s.1 s.2.1 s.2.2.1 s.2.2.2).run)
  (fun s=>s.1=l∧s.2.1=l∧s.2.2.1=l.length∧0≤s.2.2.2∧s.2.2.2≤l.length ∧ -1≤zgx l s.2.2.2∧(0 < s.2.2.2→0≤zgx l s.2.2.2)) (fun s=>l.length - s.2.2.2.toNat)
  (fun s r=>match r with | .inl b=>b=false∧z6 1 (zgx l s.2.2.2) (l.drop s.2.2.2.toNat)=false | .inr x=>z6 1 (zgx l s.2.2.2) (l.drop s.2.2.2.toNat)=true) ?_ (l,l,(l.length:Int),0) ⟨rfl,rfl,rfl,by simp,by simp,by simp[zgx],by simp⟩
 ·exact this
 ·rintro ⟨y0,x0,x1,x2⟩ ⟨g1,h1,h2,h3,h4,h6,h7⟩
  simp only at g1 h1 h2 h3 h4 h6 h7
  rw[g1,h1,h2] at *
  simp only[zhv]
  by_cases hc:x2 < l.length
  ·have hs:=zbj (l:=l) (k:=x2.toNat) (by omega) default
   rw[Tr.rt (by simpa using hc),Tr.rg ⟨h3,hc⟩,Tr.rg (by
    intro h _
    simp only[decide_eq_true_eq] at h
    rw[zm (x:=x2 - 1) (by omega) (by omega)]
    exact ⟨⟨by omega,by simp only[Sl.len];omega⟩,trivial⟩)]
   rw[hs]
   have hp:(decide (x2 > 0)&&decide ((l.getD (i64.wrap (x2 - 1)).toNat default).V≥(l.getD x2.toNat default).V))=(decide (x2 > 0)&&decide (zgx l x2≥(l.getD x2.toNat default).V)):=by
    by_cases h0:x2 > 0
    ·rw[zm (x:=x2 - 1) (by omega) (by omega)]
     unfold zgx
     rw[if_neg (by omega)]
    ·simp[h0]
   rw[hp]
   generalize hq:l.getD x2.toNat default=q at *
   by_cases hd:zgx l x2 < q.V∧q.V≤5∧1≤q.N∧q.N≤1125899906842624
   ·obtain ⟨d1,d2,d3,d4⟩:=hd
    have hw:i64.wrap (x2+1)=x2+1:=zm (by omega) (by omega)
    have hpv:zgx l (x2+1)=q.V:=by unfold zgx;rw[if_neg (by omega),show x2+1 - 1=x2 by omega,hq]
    refine .inl ⟨_,by rw[Tr.rf (by simp;omega),Tr.rl,hw],⟨rfl,rfl,rfl,?_,?_,?_,?_⟩,?_,?_⟩
    ·simp only[];omega
    ·simp only[];omega
    ·simp only[];rw[hpv];omega
    ·simp only[];rw[hpv];intro _;omega
    ·simp only[];omega
    ·simp only[]
     rw[hpv,show (x2+1).toNat=x2.toNat+1 by omega]
     intro r hr
     rw[z6,decide_eq_true d1,decide_eq_true d2,decide_eq_true d3,decide_eq_true d4]
     simpa using hr
   ·refine .inr ⟨_,by rw[Tr.rt (by
     by_cases h0:x2 > 0
     ·have:=h7 h0
      simp[h0];omega
     ·have:zgx l x2 = -1:=by unfold zgx;rw[if_pos (by omega)]
      simp[h0];omega),Tr.rl],?_⟩
    refine ⟨rfl,?_⟩
    rw[z6]
    simp only[Bool.and_eq_false_iff,yy8]
    omega
  ·refine .inr ⟨_,by rw[Tr.rf (by simpa using hc),Tr.rl],?_⟩
   rw[List.drop_eq_nil_of_le (by omega)];rfl
theorem zu7 {l:List Power} (hl:l.length≤9223372036854775807):zdt l=some (z6 1 (-1) l):=by
 obtain ⟨r,h1,h2⟩:=zamw hl
 rw[zdt,zqt]
 cases r with
 | inl b=>rw[Tr.ri h1,Tr.rl,h2.1,h2.2]
 | inr x=>rw[Tr.rj h1,Tr.rl,h2]
theorem zaxi {p:za} {a:Asked} (h:a.P.Set.length*16≤140737488351232∧a.P.Done.length*8≤140737488351232):zkg a p=some (!zvm p a,p):=by
 rw[zkg,zle,Tr.rg (by
  intro h0
  simp only[Bool.or_eq_false_iff,yy8] at h0
  exact ⟨⟨by omega,by omega⟩,trivial⟩),Tr.rg (fun _=>⟨by rw[zyx h.1 h.2];rfl,trivial⟩),Tr.rl,zyx h.1 h.2]
 congr 2
 unfold zvm
 simp only[yy2]
 have e1:decide (a.C < 0) = !decide (0≤a.C):=by rw[← decide_not];congr 1;exact propext ⟨fun h=>by omega,fun h=>by omega⟩
 have e2:decide (a.C≥2) = !decide (a.C < 2):=by rw[← decide_not];congr 1;exact propext ⟨fun h=>by omega,fun h=>by omega⟩
 rw[e1,e2]
 simp only[Bool.not_and,Bool.not_not]
 rfl
theorem zarn {l:List Asked} {p:za} (hl:l.length≤9223372036854775807) (hp:∀ a,a∈l→a.P.Set.length*16≤140737488351232∧a.P.Done.length*8≤140737488351232) :
  zb5 l p=some (!l.all (zvm p),p):=by
 obtain ⟨r,h1,h2⟩:=zhj (F:=fun s:(List Asked)×Int×Int×za=>(zah s.1 s.2.1 s.2.2.1 s.2.2.2).run) l.length
  (fun i (_:Unit)=>(l,(l.length:Int),(i:Int),p)) (fun i _=>True) (fun i _ r=>match r with | .inl k=>(0≤k.1∧k.2=p)∧(l.drop i).all (zvm p)=false | .inr q=>q=p∧(l.drop i).all (zvm p)=true) (by
   intro t _
   refine ⟨.inr p,?_,rfl,?_⟩
   ·simp only[zah];rw[Tr.rf (by simp),Tr.rl]
   ·rw[List.drop_length];rfl) (by
   intro i t hi _
   have hs:=zbj (l:=l) (k:=i) hi default
   have hm:=zgv (l:=l) (k:=i) hi default
   simp only[zah,yy4]
   rw[Tr.rt (by simpa using hi),Tr.rg ⟨by omega,by show (i:Int) < (l.length:Nat);omega⟩,Tr.rb (zaxi (hp _ hm)),hs]
   simp only[List.all_cons]
   obtain ⟨b,hb⟩:∃ b,b=zvm p (l.getD i default):=⟨_,rfl⟩
   rw[← hb]
   cases b with
   | true =>
    refine .inl ⟨(),?_,trivial,?_⟩
    ·rw[Tr.rf (show (!true)=false from rfl),Tr.rl,zq (by omega)]
    ·intro r hr
     cases r with
     | inl x=>exact ⟨hr.1,by rw[hr.2];rfl⟩
     | inr x=>rw[Bool.true_and];exact hr
   | false =>
    refine .inr ⟨.inl (i,p),?_,⟨by simp only[];omega,rfl⟩,by rfl⟩
    rw[Tr.rt (show (!false)=true from rfl),Tr.rl]) 0 () (by omega) trivial
 have h1:zd0 l l.length 0 p=some r:=h1
 rw[zb5,zca]
 cases r with
 | inl k =>
  simp only[List.drop_zero] at h2
  rw[Tr.rb (v:=k) (by rw[zb9,za9,Tr.ri h1,Tr.rl]),Tr.rl,h2.2,h2.1.2]
  simp[h2.1.1]
 | inr k =>
  simp only[List.drop_zero] at h2
  rw[Tr.rb (v:=(-1,k)) (by rw[zb9,za9,Tr.rj h1,Tr.rl]),Tr.rl,h2.2,h2.1]
  rfl
theorem za3q (x y b c d e:Bool):(((((x&&y) || !b) || !c) || !d) || !e) = !(!(x&&y)&&b&&c&&d&&e):=by
 cases x<;>cases y<;>cases b<;>cases c<;>cases d<;>cases e<;>rfl
theorem z9z {p:za} (hf:FitPr 140737488351232 p) {c:Nat} (hc:c < 2) :
  (zcz p.Links c p).run=some (if z9y p c=true then .inl (p.Links,((c+1:Nat):Int),p) else .inr (.inl false)):=by
 simp only[zcz]
 have ht:=hf.told c
 have hd:=hf.done c
 rw[Tr.rt (by simp;omega),Tr.rg ⟨by omega,by omega⟩,Tr.rg (fun _=>⟨by rw[zu7 (by omega)];rfl,trivial⟩),Tr.rg (fun _=>⟨by rw[zzw];rfl,trivial⟩),zu7 (by omega),zzw]
 simp only[yy2]
 have e:((((((p.Links.On.get (c:Int))&&(p.Links.Gone.get (c:Int)))||(decide ((p.Links.Base.get (c:Int)) < 0)))||(decide ((p.Links.Base.get (c:Int)) > p.Height)))||(!z6 1 (-1) (p.Links.Told.get (c:Int))))||(!decide (zep (ziv p.Links c)))) =
   !(!(p.Links.On.get (c:Int)&&p.Links.Gone.get (c:Int))&&decide (0≤p.Links.Base.get (c:Int))&&decide (p.Links.Base.get (c:Int)≤p.Height)&&z6 1 (-1) (p.Links.Told.get (c:Int))&&decide (zep (ziv p.Links c))):=by
  have e1:decide (p.Links.Base.get (c:Int) < 0) = !decide (0≤p.Links.Base.get (c:Int)):=by rw[← decide_not];congr 1;exact propext ⟨fun h=>by omega,fun h=>by omega⟩
  have e2:decide (p.Links.Base.get (c:Int) > p.Height) = !decide (p.Links.Base.get (c:Int)≤p.Height):=by rw[← decide_not];congr 1;exact propext ⟨fun h=>by omega,fun h=>by omega⟩
  rw[e1,e2]
  exact za3q _ _ _ _ _ _
 rw[show ziv p.Links (c:Int)=(⟨p.Links.Said.get (c:Int),p.Links.Due.get (c:Int),p.Links.Got.get (c:Int),p.Links.Closed.get (c:Int)⟩:zcd) from rfl] at e
 rw[e]
 unfold z9y
 rw[show ziv p.Links (c:Int)=(⟨p.Links.Said.get (c:Int),p.Links.Due.get (c:Int),p.Links.Got.get (c:Int),p.Links.Closed.get (c:Int)⟩:zcd) from rfl]
 generalize (!(p.Links.On.get (c:Int)&&p.Links.Gone.get (c:Int))&&decide (0≤p.Links.Base.get (c:Int))&&decide (p.Links.Base.get (c:Int)≤p.Height)&&z6 1 (-1) (p.Links.Told.get (c:Int))&&decide (zep (⟨p.Links.Said.get (c:Int),p.Links.Due.get (c:Int),p.Links.Got.get (c:Int),p.Links.Closed.get (c:Int)⟩:zcd)))=b
 cases b with
 | false=>rw[Tr.rt (show (!false)=true from rfl),Tr.rl];rfl
 | true =>
  rw[Tr.rf (show (!true)=false from rfl)]
  obtain ⟨r,h1,h2⟩:=zai6 (L:=p.Links) (c:=(c:Int)) (p:=p) (k:=⟨p.Links.On.get c,p.Links.Gone.get c,p.Links.Base.get c,p.Links.Told.get c,p.Links.Fresh.get c,p.Links.Done.get c,⟨p.Links.Said.get c,p.Links.Due.get c,p.Links.Got.get c,p.Links.Closed.get c⟩,⟨p.Links.SHeight.get c,p.Links.STime.get c,p.Links.SSaid.get c,p.Links.SGot.get c⟩⟩)
   (l:=p.Links.Done.get c) rfl (by omega)
  cases r with
  | inl b=>rw[Tr.ri h1,Tr.rl,h2.1,h2.2];rfl
  | inr x=>rw[Tr.rj h1,Tr.rl,h2.1,h2.2,zq (by omega)];rfl
theorem zji {p:za} (hf:FitPr 140737488351232 p):zbl p=some (zay p):=by
 have hs:=hf.set
 have hq:=hf.queue
 have loop:zjb p.Links 0 p=some (if z9y p 0=true then (if z9y p 1=true then .inr p else .inl false) else .inl false):=by
  rw[zjb]
  have t0:=z9z hf (c:=0) (by omega)
  have t1:=z9z hf (c:=1) (by omega)
  simp only[Int.ofNat_zero,Nat.zero_add,Int.ofNat_one] at t0 t1
  by_cases h0:z9y p 0=true
  ·rw[if_pos h0] at t0 ⊢
   rw[zdw (s':=(p.Links,((1:Nat):Int),p)) t0]
   by_cases h1:z9y p 1=true
   ·rw[if_pos h1] at t1 ⊢
    rw[zdw (s':=(p.Links,((2:Nat):Int),p)) t1,zga (r:=.inr p) (by
     show (zcz p.Links 2 p).run=_
     simp only[zcz]
     rw[Tr.rf (by simp),Tr.rl])]
   ·rw[if_neg h1] at t1 ⊢
    rw[zga (r:=.inl false) t1]
  ·rw[if_neg h0] at t0 ⊢
   rw[zga (r:=.inl false) t0]
 rw[zbl,zow,Tr.rb (zuu p.Stake),Tr.rg (fun _=>⟨by rw[zu7 (by omega)];rfl,trivial⟩),zu7 (by omega)]
 simp only[yy2]
 have e:((((((!decide (GoodS p.Stake))||(decide (p.Height < 0)))||(decide (p.Height≥1099511627776)))||(decide (p.Time < 0)))||(decide (p.Time > 1099511627776)))||(!z6 1 (-1) p.Set)) = !(decide (GoodS p.Stake)&&decide (z0t p)&&z6 1 (-1) p.Set):=by
  rw[Bool.eq_iff_iff]
  simp only[Bool.or_eq_true,Bool.not_eq_true',yy8,decide_eq_true_eq,Bool.and_eq_false_iff]
  unfold z0t
  constructor
  ·rintro (((((h | h) | h) | h) | h) | h)
   ·exact .inl (.inl h)
   ·exact .inl (.inr (by omega))
   ·exact .inl (.inr (by omega))
   ·exact .inl (.inr (by omega))
   ·exact .inl (.inr (by omega))
   ·exact .inr h
  ·rintro ((h | h) | h)
   ·exact .inl (.inl (.inl (.inl (.inl h))))
   ·rcases (show p.Height < 0∨p.Height≥1099511627776∨p.Time < 0∨p.Time > 1099511627776 by omega) with k | k | k | k
    ·exact .inl (.inl (.inl (.inl (.inr k))))
    ·exact .inl (.inl (.inl (.inr k)))
    ·exact .inl (.inl (.inr k))
    ·exact .inl (.inr k)
   ·exact .inr h
 rw[e]
 unfold zay
 generalize (decide (GoodS p.Stake)&&decide (z0t p)&&z6 1 (-1) p.Set)=b
 cases b with
 | false=>rw[Tr.rt (show (!false)=true from rfl),Tr.rl];rfl
 | true =>
  rw[Tr.rf (show (!true)=false from rfl)]
  by_cases h0:z9y p 0=true
  ·rw[if_pos h0] at loop
   by_cases h1:z9y p 1=true
   ·rw[if_pos h1] at loop
    rw[Tr.rj loop,Tr.rb (zarn (by omega) hf.ps),Tr.rl,h0,h1]
    simp
   ·rw[if_neg h1] at loop
    rw[Tr.ri loop,Tr.rl,h0,Bool.eq_false_iff.2 h1]
    rfl
  ·rw[if_neg h0] at loop
   rw[Tr.ri loop,Tr.rl,Bool.eq_false_iff.2 h0]
   rfl
structure za3r (p:za):Prop where
 waits:p.Stake.Waits.length≤9223372036854775807
 set:p.Set.length≤9223372036854775807
 told:∀ c,(p.Links.Told.get c).length≤9223372036854775807
 done:∀ c,(p.Links.Done.get c).length≤9223372036854775807
 said:∀ c,(p.Links.Said.get c).length≤9223372036854775807
 due:∀ c,(p.Links.Due.get c).length≤9223372036854775807
 queue:p.Queue.length≤9223372036854775807
 ps:∀ a,a∈p.Queue→a.P.Set.length≤9223372036854775807∧a.P.Done.length≤9223372036854775807
theorem FitPr.len {R:Nat} {p:za} (h:FitPr R p) (hR:R≤9223372036854775807):za3r p :=
 ⟨by have:=h.waits;omega,by have:=h.set;omega,fun c=>by have:=h.told c;omega,fun c=>by have:=h.done c;omega,fun c=>by have:=h.said c;omega,fun c=>by have:=h.due c;omega,by have:=h.queue;omega,
  fun a ha=>by have:=h.ps a ha;omega⟩
theorem zy7 {α:Type} {t e:Tr α}:(Tr.ite (!true) t e).run=e.run:=Tr.rf (show (!true)=false from rfl)
theorem zy8 {α:Type} {t e:Tr α}:(Tr.ite (!false) t e).run=t.run:=Tr.rt (show (!false)=true from rfl)
def newM (x t:Int):Meter:=⟨if x < 5 then 1 else x / 5,i64.wrap (t+10)⟩
def zafr (m:Meter) (x t:Int):Meter:=if m.Next≤t then newM x t else m
def zab8 (m:Meter) (n:Int):Meter×Bool:=if m.Left≤0 then (m,false) else (⟨i64.wrap (m.Left - n),m.Next⟩,true)
theorem zai7 {x t:Int} (hx:i6 x):zpq x t=some (newM x t):=by
 have h:zj1 x=some (if x < 5 then 1 else x / 5):=by
  rw[zj1,zk5,Tr.rg (by decide),Tr.rl]
  unfold i6 at hx
  by_cases h5:x < 5
  ·have:Int.tdiv x 5 < 1:=by
    by_cases h0:0≤x
    ·rw[Int.tdiv_eq_ediv_of_nonneg h0];omega
    ·have:Int.tdiv x 5≤0:=by
      have h1:Int.tdiv (-x) 5 = - Int.tdiv x 5:=Int.neg_tdiv x 5
      rw[Int.tdiv_eq_ediv_of_nonneg (by omega)] at h1
      omega
     omega
   have hl : -9223372036854775808≤Int.tdiv x 5:=by
    by_cases h0:0≤x
    ·rw[Int.tdiv_eq_ediv_of_nonneg h0];omega
    ·have h1:Int.tdiv (-x) 5 = - Int.tdiv x 5:=Int.neg_tdiv x 5
     rw[Int.tdiv_eq_ediv_of_nonneg (by omega)] at h1
     omega
   rw[zm (by omega) (by omega),if_neg (by omega),if_pos h5]
  ·rw[Int.tdiv_eq_ediv_of_nonneg (by omega),zm (by omega) (by omega),if_neg h5]
   split
   ·rfl
   ·congr 1;omega
 rw[zpq,zw1,Tr.rb h,Tr.rl];rfl
theorem zad1 {m:Meter} {x t:Int} (hx:i6 x):zns m x t=some (zafr m x t):=by
 rw[zns,ztv]
 unfold zafr
 by_cases h:m.Next≤t
 ·rw[Tr.rt (by simpa using h),Tr.rb (zai7 hx),Tr.rl,if_pos h]
 ·rw[Tr.rf (by simpa using h),Tr.rl,if_neg h]
theorem zad2 {m:Meter} {n:Int}:zhq m n=some (zab8 m n):=by
 rw[zhq,ztw]
 unfold zab8
 by_cases h:m.Left≤0
 ·rw[Tr.rt (by simpa using h),Tr.rl,if_pos h]
 ·rw[Tr.rf (by simpa using h),Tr.rl,if_neg h]
def z90:za:=⟨0,0,newS,[],default,newM 0 0,[]⟩
theorem zafs:zou=some z90:=by
 rw[zou,zqs,Tr.rb zab1,Tr.rb (zai7 (by unfold i6;omega)),Tr.rl];rfl
def zgd (p:za) (d v n:Int):za×Int :=
 if zay p=true then (if (zdh p.Stake d v n).2≠0 then (p,(zdh p.Stake d v n).2) else ({ p with Stake:=(zdh p.Stake d v n).1 },0)) else (p,2)
theorem z3l {p:za} (hf:FitPr 140737488351232 p) {d v n:Int} (hn:n≤9223372036854775807):zh1 p d v n=some (zgd p d v n):=by
 rw[zh1,zjc,Tr.rb (zji hf)]
 unfold zgd
 by_cases hg:zay p=true
 ·rw[hg,zy7,if_pos rfl,Tr.rb (zabv hn)]
  by_cases h0:(zdh p.Stake d v n).2≠0
  ·rw[Tr.rt (by simpa using h0),Tr.rl,if_pos h0]
  ·rw[Tr.rf (by simpa using h0),Tr.rl,if_neg h0]
 ·rw[Bool.eq_false_iff.2 hg,zy8,Tr.rl];rfl
def z91 (p:za) (now:Int):Wait:=⟨0,0,0,0,p.Height+1,now+20,if p.Links.On.x0=true then p.Height+1 else 0,if p.Links.On.x1=true then p.Height+1 else 0⟩
def zad3 (L:Links):Links:={ L with Fresh:=⟨L.Fresh.x0||L.On.x0,L.Fresh.x1||L.On.x1⟩ }
def zhm (p:za) (d v k now:Int):za×Int :=
 if zay p=true∧0≤now∧now≤1099511627776 then
  (if (zcc p.Stake d v k (z91 p now)).2≠0 then (p,(zcc p.Stake d v k (z91 p now)).2) else ({ p with Stake:=(zcc p.Stake d v k (z91 p now)).1,Links:=zad3 p.Links },0))
 else (p,2)
theorem zjj {p:za} (h:zay p=true):GoodS p.Stake∧z0t p∧z6 1 (-1) p.Set=true∧z9y p 0=true∧z9y p 1=true∧p.Queue.all (zvm p)=true:=by
 unfold zay at h
 simp only[yy7,decide_eq_true_eq] at h
 exact ⟨h.1.1.1.1.1,h.1.1.1.1.2,h.1.1.1.2,h.1.1.2,h.1.2,h.2⟩
theorem z5t {p:za} {now:Int}:(((!zay p)||(decide (now < 0)))||(decide (now > 1099511627776))) = !decide (zay p=true∧0≤now∧now≤1099511627776):=by
 rw[Bool.eq_iff_iff]
 simp only[Bool.or_eq_true,Bool.not_eq_true',decide_eq_true_eq,yy8]
 cases zay p<;>simp<;>omega
theorem zz5 {p:za} (hf:FitPr 140737488351232 p) {d v k now:Int} (hk:k≤9223372036854775807):zbd p d v k now=some (zhm p d v k now):=by
 rw[zbd,zg5,Tr.rb (zji hf)]
 unfold zhm
 by_cases hg:zay p=true∧0≤now∧now≤1099511627776
 ·rw[if_pos hg]
  obtain ⟨g1,g2,-⟩:=zjj hg.1
  unfold z0t at g2
  have turn:∀ (c:Nat),c < 2→∀ (q:za) (w:Wait),(zaz d v k c p q w).run=some (.inl (d,v,k,((c+1:Nat):Int),p,q,if p.Links.On.get c=true then { w with h0:=if (c:Int)=0 then p.Height+1 else w.h0,h1:=if (c:Int)=1 then p.Height+1 else w.h1 } else w)):=by
   intro c hc q w
   simp only[zaz]
   rw[Tr.rt (by simp;omega),Tr.rg ⟨by omega,by omega⟩]
   by_cases ho:p.Links.On.get c=true
   ·rw[Tr.rt ho,Tr.rg ⟨by omega,by omega⟩,Tr.rl,zq (by omega),if_pos ho,zm (by omega) (by omega)]
   ·rw[Tr.rf (Bool.eq_false_iff.2 ho),Tr.rl,zq (by omega),if_neg ho]
  have hw:zel d v k 0 p default ⟨0,0,0,0,p.Height+1,now+20,0,0⟩=some (d,v,k,p,default,z91 p now):=by
   rw[zel,zdw (s':=(d,v,k,((1:Nat):Int),p,_,_)) (turn 0 (by omega) _ _),zdw (s':=(d,v,k,((2:Nat):Int),p,_,_)) (turn 1 (by omega) _ _),zga (by
    show (zaz d v k 2 p _ _).run=_
    simp only[zaz]
    rw[Tr.rf (by simp),Tr.rl])]
   have e0:p.Links.On.get ((0:Nat):Int)=p.Links.On.x0:=rfl
   have e1:p.Links.On.get ((1:Nat):Int)=p.Links.On.x1:=rfl
   rw[e0,e1]
   unfold z91
   cases p.Links.On.x0<;>cases p.Links.On.x1<;>rfl
  rw[Tr.rf (by rw[z5t,decide_eq_true hg];rfl),zm (x:=p.Height+1) (by omega) (by omega),zm (x:=now+20) (by omega) (by omega),Tr.rb hw]
  simp only[]
  rw[Tr.rb (z7n hk)]
  by_cases h0:(zcc p.Stake d v k (z91 p now)).2≠0
  ·rw[Tr.rt (by simpa using h0),Tr.rl,if_pos h0]
  ·rw[Tr.rf (by simpa using h0),if_neg h0]
   have turn2:∀ (c:Nat),c < 2→∀ (p q:za),(za0 c p q).run=some (.inl (((c+1:Nat):Int),{ p with Links:={ p.Links with Fresh:=p.Links.Fresh.set c (p.Links.Fresh.get c||p.Links.On.get c) } },q)):=by
    intro c hc p q
    simp only[za0]
    rw[Tr.rt (by simp;omega),Tr.rg ⟨by omega,by omega⟩,Tr.rg (fun _=>⟨⟨by omega,by omega⟩,trivial⟩),Tr.rg ⟨by omega,by omega⟩,Tr.rl,zq (by omega)]
   rw[Tr.rb (v:=({ p with Stake:=(zcc p.Stake d v k (z91 p now)).1,Links:=zad3 p.Links },default)) (by
    rw[zio,zdw (s':=(((1:Nat):Int),_,_)) (turn2 0 (by omega) _ _),zdw (s':=(((2:Nat):Int),_,_)) (turn2 1 (by omega) _ _),zga (by
     show (za0 2 _ _).run=_
     simp only[za0]
     rw[Tr.rf (by simp),Tr.rl])]
    rfl),Tr.rl]
 ·rw[if_neg hg,Tr.rt (by rw[z5t,decide_eq_false hg];rfl),Tr.rl]
theorem zza:∀ {l:List Int} {p:Int},zas p l=true→(∀ q,q∈l→p < q∧q≤5)∧l.Pairwise (· < ·)
 | [],p,h=>⟨by simp,.nil⟩
 | q::l,p,h=>by
  simp only[zas,yy7,decide_eq_true_eq] at h
  obtain ⟨h1,h2⟩:=zza h.2
  refine ⟨fun x hx=>?_,List.pairwise_cons.2 ⟨fun x hx=>(h1 x hx).1,h2⟩⟩
  rcases List.mem_cons.1 hx with rfl | hx
  ·exact h.1
  ·have:=h1 x hx;omega
theorem z92:∀ {l:List Int} {p:Int},(∀ q,q∈l→p < q∧q≤5)→l.Pairwise (· < ·)→zas p l=true
 | [],p,_,_=>rfl
 | q::l,p,h1,h2=>by
  have hq:=h1 q (List.mem_cons_self ..)
  rw[List.pairwise_cons] at h2
  simp only[zas,yy7,decide_eq_true_eq]
  exact ⟨hq,z92 (fun x hx=>⟨h2.1 x hx,(h1 x (List.mem_cons_of_mem _ hx)).2⟩) h2.2⟩
theorem zab9:∀ {l m:List Int},l.Pairwise (· < ·)→m.Pairwise (· < ·)→(∀ p,p∈l↔p∈m)→l=m
 | [],[],_,_,_=>rfl
 | [],b::m,_,_,h=>by have:=(h b).2 (List.mem_cons_self ..);cases this
 | a::l,[],_,_,h=>by have:=(h a).1 (List.mem_cons_self ..);cases this
 | a::l,b::m,hl,hm,h=>by
  rw[List.pairwise_cons] at hl hm
  have hab:a=b:=by
   rcases List.mem_cons.1 ((h a).1 (List.mem_cons_self ..)) with h1 | h1
   ·exact h1
   ·rcases List.mem_cons.1 ((h b).2 (List.mem_cons_self ..)) with h2 | h2
    ·exact h2.symm
    ·have k1:=hm.1 a h1
     have k2:=hl.1 b h2
     omega
  subst hab
  congr 1
  refine zab9 hl.2 hm.2 fun p=>⟨fun hp=>?_,fun hp=>?_⟩
  ·rcases List.mem_cons.1 ((h p).1 (List.mem_cons_of_mem _ hp)) with h1 | h1
   ·have:=hl.1 p hp;omega
   ·exact h1
  ·rcases List.mem_cons.1 ((h p).2 (List.mem_cons_of_mem _ hp)) with h1 | h1
   ·have:=hm.1 p hp;omega
   ·exact h1
theorem zaro (a b:Int):zo2 a b=some (decide (a < b)):=by
 have h:∀ x,zf8 x=some false:=fun x=>by rw[zf8,zo1,Tr.rl];simp
 rw[zo2,zqu,Tr.rb (h a),Tr.rg (fun e=>by cases e),Tr.rl]
 simp
theorem zad4 (x:Int):zbm x=some false:=by rw[zbm,zkh,Tr.rl];simp
theorem zaca {l:List Int} (h:l.Pairwise (· < ·)) {x y:Nat} (hxy:x < y) (hy:y < l.length):l.getD x 0 < l.getD y 0:=by
 have:=List.pairwise_iff_getElem.1 h x y (by omega) hy hxy
 rw[yy0,yy0,yy3 hy,yy3 (show x < l.length by omega)]
 exact this
def z93 (l:List Int) (v k:Int):Prop:=0≤k∧k≤l.length∧(∀ x:Nat,(x:Int) < k→l.getD x 0 < v)∧(∀ x:Nat,k≤x→x < l.length→v≤l.getD x 0)
theorem zai8 {l:List Int} (hs:l.Pairwise (· < ·)) (hl:l.length≤1000) (v:Int) :
  ∃ k,zf9 l v l.length 0 l.length=some (l,v,(l.length:Int),k)∧z93 l v k:=by
 have:=zr7 (F:=fun s:(List Int)×Int×Int×Int×Int=>(zbp s.1 s.2.1 s.2.2.1 s.2.2.2.1 s.2.2.2.2).run)
  (fun s=>s.1=l∧s.2.1=v∧s.2.2.1=l.length∧(0≤s.2.2.2.1∧s.2.2.2.1≤s.2.2.2.2∧s.2.2.2.2≤l.length)∧(∀ x:Nat,(x:Int) < s.2.2.2.1→l.getD x 0 < v)∧(∀ x:Nat,s.2.2.2.2≤x→x < l.length→v≤l.getD x 0))
  (fun s=>(s.2.2.2.2 - s.2.2.2.1).toNat) (fun s r=>∃ k,r=(l,v,(l.length:Int),k)∧z93 l v k) ?_ (l,v,(l.length:Int),0,(l.length:Int)) ⟨rfl,rfl,rfl,⟨by simp,by simp,by simp⟩,by intro x hx;simp only[] at hx;omega,by intro x hx h2;simp only[] at hx;omega⟩
 ·obtain ⟨r,h1,k,rfl,h3⟩:=this
  exact ⟨k,h1,h3⟩
 ·rintro ⟨x0,x1,x2,i,j⟩ ⟨h1,h2,h3,⟨h4,h5,h6⟩,h7,h8⟩
  simp only at h1 h2 h3 h4 h5 h6 h7 h8
  rw[h1,h2,h3] at *
  simp only[zbp]
  by_cases hc:i < j
  ·have hm:i64.wrap (Int.fdiv (u64.wrap (i64.wrap (i+j))) (2 ^ 1))=(i+j) / 2:=by
    rw[zm (x:=i+j) (by omega) (by omega),zah5 (by omega) (by omega),Int.fdiv_eq_ediv_of_nonneg _ (by decide),zm (by omega) (by omega)]
    rfl
   rw[hm]
   generalize hmm:(i+j) / 2=m
   have m1:i≤m:=by omega
   have m2:m < j:=by omega
   rw[Tr.rt (by simpa using hc),Tr.rg (by decide),Tr.rg ⟨by omega,by show m < (l.length:Nat);omega⟩,Tr.rb (zaro _ _)]
   by_cases hlt:l.getD m.toNat 0 < v
   ·refine .inl ⟨(l,v,(l.length:Int),m+1,j),by rw[Tr.rt (by simpa using hlt),Tr.rl,zm (by omega) (by omega)],⟨rfl,rfl,rfl,⟨by simp only[];omega,by simp only[];omega,by simp only[];omega⟩,?_,h8⟩,by simp only[];omega,fun r hr=>hr⟩
    intro x hx
    simp only[] at hx
    by_cases hxm:x=m.toNat
    ·rw[hxm];exact hlt
    ·have:=zaca hs (x:=x) (y:=m.toNat) (by omega) (by omega)
     omega
   ·refine .inl ⟨(l,v,(l.length:Int),i,m),by rw[Tr.rf (by simpa using hlt),Tr.rl],⟨rfl,rfl,rfl,⟨by simp only[];omega,by simp only[];omega,by simp only[];omega⟩,h7,?_⟩,by simp only[];omega,fun r hr=>hr⟩
    intro x hx hx2
    simp only[] at hx
    by_cases hxm:x=m.toNat
    ·rw[hxm];omega
    ·have:=zaca hs (x:=m.toNat) (y:=x) (by omega) hx2
     omega
  ·refine .inr ⟨(l,v,(l.length:Int),i),by rw[Tr.rf (by simpa using hc),Tr.rl],i,rfl,h4,by omega,h7,fun x hx=>h8 x (by omega)⟩
theorem zai9 {l:List Int} (hs:l.Pairwise (· < ·)) (hl:l.length≤1000) (v:Int):∃ k,zv l v=some (k,decide (v∈l))∧z93 l v k:=by
 obtain ⟨k,h1,h2⟩:=zai8 hs hl v
 refine ⟨k,?_,h2⟩
 obtain ⟨k0,k1,k2,k3⟩:=h2
 have hin:decide (k < (l.length:Int))=true→(0:Int)≤k∧k < ((Sl.len (.ints l):Nat):Int):=fun h=>⟨k0,by simpa[Sl.len] using h⟩
 rw[zv,zem,Tr.rb h1]
 simp only[]
 rw[Tr.rg (fun h=>⟨hin h,trivial⟩),Tr.rg (fun _ h=>⟨hin h,trivial⟩),Tr.rg (fun _ _=>⟨by rw[zad4];rfl,trivial⟩),Tr.rg (fun _ _ _=>⟨by rw[zad4];rfl,trivial⟩),Tr.rl,zad4,zad4]
 simp only[yy2,Bool.and_false,Bool.or_false]
 congr 2
 rw[Bool.eq_iff_iff]
 simp only[yy7,decide_eq_true_eq,beq_iff_eq]
 constructor
 ·rintro ⟨hk,he⟩
  rw[← he]
  exact zgv (by omega) 0
 ·intro hv
  obtain ⟨x,hx,he⟩:=List.getElem_of_mem hv
  have hg:l.getD x 0=v:=by rw[yy0,yy3 hx];exact he
  have hkx:k≤x:=by
   rcases Int.lt_or_le (x:Int) k with h | h
   ·have:=k2 x h;omega
   ·exact h
  refine ⟨by omega,?_⟩
  have h3:=k3 k.toNat (by omega) (by omega)
  by_cases hxk:x=k.toNat
  ·rw[← hxk];exact hg
  ·have:=zaca hs (x:=k.toNat) (y:=x) (by omega) hx
   omega
def insD (l:List Int) (v:Int):List Int:=((List.range 6).map (fun (u:Nat)=>(u:Int))).filter (fun u=>u==v||decide (u∈l))
theorem range_pw:((List.range 6).map (fun (u:Nat)=>(u:Int))).Pairwise (· < ·):=by decide
theorem zacb (l:List Int) (v:Int):(insD l v).Pairwise (· < ·):=range_pw.sublist List.filter_sublist
theorem zaft {u:Int}:u∈(List.range 6).map (fun (u:Nat)=>(u:Int))↔0≤u∧u≤5:=by
 rw[List.mem_map]
 constructor
 ·rintro ⟨x,hx,rfl⟩;rw[List.mem_range] at hx;omega
 ·intro h;exact ⟨u.toNat,by rw[List.mem_range];omega,by omega⟩
theorem mem_insD {l:List Int} {v u:Int}:u∈insD l v↔(0≤u∧u≤5)∧(u=v∨u∈l):=by
 unfold insD;rw[List.mem_filter,zaft];simp
theorem zajb (l:List Int) (v:Int):zas (-1) (insD l v)=true:=z92 (fun q hq=>by have:=(mem_insD.1 hq).1;omega) (zacb l v)
theorem zarp {l:List Int} {v:Int} (h:zas (-1) l=true) (hv:v∈l):insD l v=l:=by
 obtain ⟨h1,h2⟩:=zza h
 refine zab9 (zacb l v) h2 fun u=>?_
 rw[mem_insD]
 constructor
 ·rintro ⟨_,rfl | h⟩<;>assumption
 ·intro hu;have:=h1 u hu;exact ⟨by omega,.inr hu⟩
theorem zamx {l:List Int} {v k:Int} (h:zas (-1) l=true) (hv:v∉l) (hv5:0≤v∧v≤5) (hk:z93 l v k):l.take k.toNat++[v]++l.drop k.toNat=insD l v:=by
 obtain ⟨h1,h2⟩:=zza h
 obtain ⟨k0,k1,k2,k3⟩:=hk
 have htake:∀ x,x∈l.take k.toNat→x < v:=by
  intro x hx
  obtain ⟨i,hi,rfl⟩:=List.getElem_of_mem hx
  rw[List.length_take] at hi
  have:=k2 i (by omega)
  rw[yy0,yy3 (by omega)] at this
  rw[List.getElem_take];exact this
 have hdrop:∀ x,x∈l.drop k.toNat→v < x:=by
  intro x hx
  have hm:x∈l:=List.mem_of_mem_drop hx
  obtain ⟨i,hi,rfl⟩:=List.getElem_of_mem hx
  rw[List.length_drop] at hi
  have:=k3 (k.toNat+i) (by omega) (by omega)
  rw[yy0,yy3 (by omega)] at this
  rw[List.getElem_drop] at hm ⊢
  have hne:l[k.toNat+i]≠v:=fun e=>hv (e ▸ hm)
  have h3:v≤l[k.toNat+i]:=this
  omega
 refine zab9 ?_ (zacb l v) fun u=>?_
 ·rw[List.append_assoc,List.pairwise_append]
  refine ⟨h2.sublist (List.take_sublist _ _),?_,?_⟩
  ·rw[List.singleton_append,List.pairwise_cons]
   exact ⟨hdrop,h2.sublist (List.drop_sublist _ _)⟩
  ·intro a ha b hb
   rw[List.singleton_append] at hb
   rcases List.mem_cons.1 hb with rfl | hb
   ·exact htake a ha
   ·have:=htake a ha;have:=hdrop b hb;omega
 ·rw[mem_insD,List.append_assoc,List.mem_append,List.singleton_append,List.mem_cons]
  constructor
  ·rintro (hu | rfl | hu)
   ·have hm:=List.mem_of_mem_take hu
    have:=h1 u hm
    exact ⟨by omega,.inr hm⟩
   ·exact ⟨hv5,.inl rfl⟩
   ·have hm:=List.mem_of_mem_drop hu
    have:=h1 u hm
    exact ⟨by omega,.inr hm⟩
  ·rintro ⟨_,rfl | hu⟩
   ·exact .inr (.inl rfl)
   ·rw[← List.take_append_drop k.toNat l,List.mem_append] at hu
    exact hu.imp id .inr
def zz6 (p:za) (v:Int):Int:=if (i64.wrap (Int.tdiv (p.Stake.Validators.Tokens.get v) 100)) > 1 then (i64.wrap (Int.tdiv (p.Stake.Validators.Tokens.get v) 100)) else 1
def zajc (p:za) (c v:Int):za:={ p with Links:={ p.Links with Done:=p.Links.Done.set c (insD (p.Links.Done.get c) v) } }
def za3s (p:za) (a:Asked):Int:=if (p.Links.Base.get a.C) > a.P.Id then (p.Links.Base.get a.C) else a.P.Id
def z7w (p:za) (a:Asked):za×Bool :=
 if a.P.Kind=2 then ({ p with Stake:=zp2 p.Stake a.C a.P.Id },true)
 else if a.P.Kind=4 then (if p.Stake.Validators.Dead.get a.P.V=true then (p,true) else ({ p with Stake:=(zdn (ziu p.Stake a.P.V (za3s p a) 50).1 a.P.V 2).1 },true))
 else if p.Stake.Validators.Jailed.get a.P.V=true then (zajc p a.C a.P.V,true)
 else if (zab8 p.Meter (zz6 p a.P.V)).2=true then (zajc { p with Stake:=(zdn p.Stake a.P.V 0).1,Meter:=(zab8 p.Meter (zz6 p a.P.V)).1 } a.C a.P.V,true)
 else (p,false)
structure zajd (p:za) (a:Asked):Prop where
 v:0≤a.P.V∧a.P.V≤5
 c:0≤a.C∧a.C < 2
 k:a.P.Kind=2∨a.P.Kind=3∨a.P.Kind=4
 w:p.Stake.Waits.length*64≤140737488351232
 d:zas (-1) (p.Links.Done.get a.C)=true
theorem zs0 {α:Type} (a:A2 α) {c:Int} (hc:0≤c∧c < 2):a.set c (a.get c)=a:=by
 rcases (show c=0∨c=1 by omega) with rfl | rfl<;>rfl
theorem z1j {l:List Int} (h:zas (-1) l=true):l.length≤6:=by
 have:=zu3 h (by omega);omega
theorem zaje {p:za} {a:Asked} (hf:zajd p a) (hv:a.P.V∈p.Links.Done.get a.C):zajc p a.C a.P.V=p:=by
 unfold zajc
 rw[zarp hf.d hv,zs0 _ hf.c]
theorem zajf {l:List Int} {k v:Int} (hl:l.length≤6) (hk:z93 l v k):zby l k [v]=some (l.take k.toNat++[v]++l.drop k.toNat):=by
 unfold zby insP
 rw[if_pos ⟨hk.1,hk.2.1,by simp,by simp;omega⟩]
theorem zarq {p:za} {a:Asked} (hf:zajd p a):zm1 a p=some ((z7w p a).2,(z7w p a).1):=by
 obtain ⟨hv,hc,hk,hw,hd⟩:=hf
 have hl:=z1j hd
 obtain ⟨pk,hs,hpl⟩:=zai9 (zza hd).2 (by omega) a.P.V
 have hcl:=z9d (l:=p.Links.Done.get a.C) (by omega)
 have hin:=zajf hl hpl
 have hmem:(!decide (a.P.V∈p.Links.Done.get a.C))=true→(p.Links.Done.get a.C).take pk.toNat++[a.P.V]++(p.Links.Done.get a.C).drop pk.toNat=insD (p.Links.Done.get a.C) a.P.V:=by
  intro h
  exact zamx hd (by simpa using h) hv hpl
 rw[zm1,zo3,Tr.rg ⟨by omega,by omega⟩,Tr.rg hc]
 unfold z7w
 by_cases k2:a.P.Kind=2
 ·rw[Tr.rt (by simpa using k2),Tr.rg (by rw[zz0 hw];rfl),Tr.rl,zz0 hw,if_pos k2];rfl
 ·rw[Tr.rf (by simpa using k2),if_neg k2]
  by_cases k4:a.P.Kind=4
  ·rw[if_pos k4,Tr.rf (by rw[k4];decide),Tr.rt (by simpa using k4)]
   by_cases hdd:p.Stake.Validators.Dead.get a.P.V=true
   ·rw[if_pos hdd,hdd,zy7,Tr.rl]
   ·rw[if_neg hdd,Bool.eq_false_iff.2 hdd,zy8,Tr.rg (by rw[z7r];rfl),z7r]
    simp only[yy2]
    rw[Tr.rg (by rw[zabx];rfl),Tr.rl,zabx];rfl
  ·have k3:a.P.Kind=3:=by omega
   rw[if_neg k4,Tr.rt (by simpa using k3)]
   by_cases hj:p.Stake.Validators.Jailed.get a.P.V=true
   ·rw[if_pos hj,hj,zy7,Tr.rg (by rw[hs];rfl),hs]
    simp only[yy2]
    by_cases hm:a.P.V∈p.Links.Done.get a.C
    ·rw[decide_eq_true hm,zy7,Tr.rl,zaje ⟨hv,hc,hk,hw,hd⟩ hm]
    ·rw[decide_eq_false hm,zy8,Tr.rg (by rw[hcl];rfl),hcl]
     simp only[yy2]
     rw[Tr.rg (by rw[hin];rfl),Tr.rl,hin,yy2,hmem (by simpa using hm)]
     rfl
   ·rw[if_neg hj,Bool.eq_false_iff.2 hj,zy8,Tr.rg (by decide),Tr.rg (by rw[zad2];rfl),zad2]
    simp only[yy2]
    rw[show (if (i64.wrap (Int.tdiv (p.Stake.Validators.Tokens.get a.P.V) 100)) > 1 then (i64.wrap (Int.tdiv (p.Stake.Validators.Tokens.get a.P.V) 100)) else 1)=zz6 p a.P.V from rfl]
    by_cases ht:(zab8 p.Meter (zz6 p a.P.V)).2=true
    ·rw[if_pos ht,ht,zy7,Tr.rg (by rw[zaio];rfl),Tr.rg (by rw[hs];rfl),hs,zaio]
     simp only[yy2]
     by_cases hm:a.P.V∈p.Links.Done.get a.C
     ·rw[decide_eq_true hm,zy7,Tr.rl]
      have:=zaje (p:={ p with Stake:=(zdn p.Stake a.P.V 0).1,Meter:=(zab8 p.Meter (zz6 p a.P.V)).1 }) (a:=a) ⟨hv,hc,hk,by show (zdn p.Stake a.P.V 0).1.Waits.length*64≤_;rw[z9r];exact hw,hd⟩ hm
      rw[this]
     ·rw[decide_eq_false hm,zy8,Tr.rg (by rw[hcl];rfl),hcl]
      simp only[yy2]
      rw[Tr.rg (by rw[hin];rfl),Tr.rl,hin,yy2,hmem (by simpa using hm)]
      rfl
    ·rw[if_neg ht,Bool.eq_false_iff.2 ht,zy8,Tr.rl]
def upP (p:za) (S:Stake) (D:A2 (List Int)) (M:Meter):za:={ p with Stake:=S,Links:={ p.Links with Done:=D },Meter:=M }
def DealI (p0 p:za):Prop:=∃ S D M,p=upP p0 S D M∧GoodS S∧zas (-1) D.x0=true∧zas (-1) D.x1=true
theorem DealI.get {p0 p:za} (h:DealI p0 p) {c:Int}:zas (-1) (p.Links.Done.get c)=true:=by
 obtain ⟨S,D,M,rfl,_,h0,h1⟩:=h
 show zas (-1) (D.get c)=true
 unfold A2.get;split<;>assumption
theorem DealI.good {p0 p:za} (h:DealI p0 p):GoodS p.Stake:=by obtain ⟨S,D,M,rfl,h,_⟩:=h;exact h
theorem zajg {p0:za} {S:Stake} {D:A2 (List Int)} {M:Meter} {c v:Int} (h0:zas (-1) D.x0=true) (h1:zas (-1) D.x1=true):∃ D',zajc (upP p0 S D M) c v=upP p0 S D' M∧zas (-1) D'.x0=true∧zas (-1) D'.x1=true:=by
 refine ⟨D.set c (insD (D.get c) v),rfl,?_,?_⟩
 ·show zas (-1) (if c=0 then insD (D.get c) v else D.x0)=true
  split
  ·exact zajb _ _
  ·exact h0
 ·show zas (-1) (if c=1 then insD (D.get c) v else D.x1)=true
  split
  ·exact zajb _ _
  ·exact h1
theorem zuw {s:Stake} (hg:GoodS s) (v h f:Int):GoodS (ziu s v h f).1:=(zafm hg v h f).1
theorem zs1 {s:Stake} (hg:GoodS s) (v:Int) {what:Int} (hw:what=0∨what=1∨what=2):GoodS (zdn s v what).1:=(zafl hg v hw).1
theorem zad5 {p0 p:za} (h:DealI p0 p) (a:Asked):DealI p0 (z7w p a).1:=by
 obtain ⟨S,D,M,rfl,hS,h0,h1⟩:=h
 unfold z7w
 split
 ·exact ⟨zp2 S a.C a.P.Id,D,M,rfl,z0s hS,h0,h1⟩
 ·split
  ·split
   ·exact ⟨S,D,M,rfl,hS,h0,h1⟩
   ·exact ⟨_,D,M,rfl,zs1 (zuw hS _ _ _) _ (.inr (.inr rfl)),h0,h1⟩
  ·split
   ·obtain ⟨D',e,k0,k1⟩:=zajg (p0:=p0) (S:=S) (M:=M) (c:=a.C) (v:=a.P.V) h0 h1
    exact ⟨S,D',M,e,hS,k0,k1⟩
   ·split
    ·obtain ⟨D',e,k0,k1⟩:=zajg (p0:=p0) (S:=(zdn S a.P.V 0).1) (M:=(zab8 M (zz6 (upP p0 S D M) a.P.V)).1) (c:=a.C) (v:=a.P.V) h0 h1
     exact ⟨_,D',_,e,zs1 hS _ (.inl rfl),k0,k1⟩
    ·exact ⟨S,D,M,rfl,hS,h0,h1⟩
def z7x (t:za×A2 Bool×List Asked) (a:Asked):za×A2 Bool×List Asked :=
 if t.2.1.get a.C=true then (t.1,t.2.1.set a.C true,t.2.2++[a])
 else if (z7w t.1 a).2=true then ((z7w t.1 a).1,t.2.1,t.2.2)
 else ((z7w t.1 a).1,t.2.1.set a.C true,t.2.2++[a])
def zacc (p0:za) (i:Nat) (t:za×A2 Bool×List Asked):Prop :=
 DealI p0 t.1∧t.2.2.length≤i∧(∀ c:Int,0≤c∧c < 2→t.2.1.get c=t.2.2.any (fun b=>b.C==c))∧∀ b,b∈t.2.2→b∈p0.Queue
theorem zav {α:Type} (a:A2 α) {i j:Int} (y:α) (hi:0≤i∧i < 2) (hj:0≤j∧j < 2):(a.set i y).get j=if j=i then y else a.get j:=by
 rcases (show i=0∨i=1 by omega) with rfl | rfl<;>rcases (show j=0∨j=1 by omega) with rfl | rfl<;>rfl
theorem zad6 {p0:za} {i:Nat} {t:za×A2 Bool×List Asked} (h:zacc p0 i t) {a:Asked} (hc:0≤a.C∧a.C < 2) (ha:a∈p0.Queue):zacc p0 (i+1) (z7x t a):=by
 obtain ⟨h1,h2,h3,h4⟩:=h
 have more:∀ p,DealI p0 p→zacc p0 (i+1) (p,t.2.1.set a.C true,t.2.2++[a]):=by
  intro p hp
  refine ⟨hp,by simp;omega,fun c hcc=>?_,fun b hb=>?_⟩
  ·show (t.2.1.set a.C true).get c=(t.2.2++[a]).any (fun b=>b.C==c)
   rw[zav _ _ hc hcc,List.any_append]
   by_cases e:c=a.C
   ·rw[if_pos e];simp[e]
   ·rw[if_neg e,h3 c hcc];simp[Ne.symm e]
  ·rcases List.mem_append.1 hb with hb | hb
   ·exact h4 b hb
   ·rw[List.mem_singleton.1 hb];exact ha
 unfold z7x
 split
 ·exact more _ h1
 ·split
  ·exact ⟨zad5 h1 a,by simp only[];omega,h3,h4⟩
  ·exact more _ (zad5 h1 a)
theorem zarr {p0 p:za} (hp:DealI p0 p) {q:za} {a:Asked} (ha:zvm q a=true):zajd p a:=by
 unfold zvm at ha
 simp only[yy7,decide_eq_true_eq,beq_iff_eq,Bool.not_eq_true',beq_eq_false_iff_ne] at ha
 obtain ⟨⟨⟨⟨c0,c1⟩,_⟩,hg⟩,hk⟩:=ha
 have hf:=zn3 hg
 exact ⟨⟨hf.2.2.2.2.1,hf.2.2.2.2.2.1⟩,⟨c0,c1⟩,by omega,hp.good.fit,hp.get⟩
theorem zamy {p0:za} {q:za} {now:Int} {d:za} {l:List Asked} {p:za} (hp:DealI p0 p) (hl:l.length*88≤140737488351232) (ha:∀ a,a∈l→zvm q a=true∧a∈p0.Queue) :
  zgu now l l.length 0 p d ⟨false,false⟩ []=some (now,(l.foldl z7x (p,⟨false,false⟩,[])).1,d,(l.foldl z7x (p,⟨false,false⟩,[])).2.2):=by
 rw[zgu]
 have:=zkp (F:=fun s:Int×(List Asked)×Int×Int×za×za×(A2 Bool)×(List Asked)=>(ze6 s.1 s.2.1 s.2.2.1 s.2.2.2.1 s.2.2.2.2.1 s.2.2.2.2.2.1 s.2.2.2.2.2.2.1 s.2.2.2.2.2.2.2).run) l default
  (fun i (t:za×A2 Bool×List Asked)=>(now,l,(l.length:Int),(i:Int),t.1,d,t.2.1,t.2.2)) (zacc p0) z7x (fun t=>(now,t.1,d,t.2.2)) (by
   intro t _
   simp only[ze6]
   rw[Tr.rf (by simp),Tr.rl]) (by
   intro i t hi hI
   obtain ⟨a1,a2⟩:=ha _ (zgv (l:=l) (k:=i) hi default)
   have hfit:=zarr hI.1 a1
   refine ⟨?_,zad6 hI hfit.c a2⟩
   have hlen:=hI.2.1
   simp only[ze6,yy4]
   rw[Tr.rt (by simpa using hi),Tr.rg ⟨by omega,by show (i:Int) < (l.length:Nat);omega⟩,Tr.rg hfit.c]
   unfold z7x
   by_cases hw:t.2.1.get (l.getD i default).C=true
   ·rw[if_pos hw,Tr.rt hw,Tr.rt (show true=true from rfl),Tr.rt (show true=true from rfl),Tr.rt (show true=true from rfl)]
    rw[Tr.rg hfit.c,Tr.rg (by show (t.2.2.length+1)*88≤_;omega),Tr.rl,zq (by omega)]
   ·rw[if_neg hw,Tr.rf (Bool.eq_false_iff.2 hw),Tr.rb (zarq hfit)]
    simp only[]
    by_cases hd:(z7w t.1 (l.getD i default)).2=true
    ·rw[if_pos hd,Tr.rf (by rw[hd];rfl),Tr.rl,zq (by omega)]
    ·rw[if_neg hd,Tr.rt (by rw[Bool.eq_false_iff.2 hd];rfl),Tr.rg hfit.c,Tr.rg (by show (t.2.2.length+1)*88≤_;omega),Tr.rl,zq (by omega)]) (p,⟨false,false⟩,[]) ⟨hp,by simp,fun c hc=>by rcases (show c=0∨c=1 by omega) with rfl | rfl<;>rfl,fun b hb=>by cases hb⟩
 exact this
def dOf (p:za) (c:Int):List Power:=zv5 (fP (p.Links.Told.get c)) (fP p.Set)
def pkOf (p:za) (c:Int):Packet:=⟨1,p.Height,0,0,dOf p c,p.Links.Done.get c⟩
def zpe (p:za) (c now:Int):zcd×Int:=z7e (ziv p.Links c) (zhl (pkOf p c)).1 (now+40)
def zamz (p:za) (c now:Int):za :=
 { p with Links:={ p.Links with Told:=p.Links.Told.set c p.Set,Fresh:=p.Links.Fresh.set c false,Done:=p.Links.Done.set c [],Said:=p.Links.Said.set c (zpe p c now).1.Said,Due:=p.Links.Due.set c (zpe p c now).1.Due,Got:=p.Links.Got.set c (zpe p c now).1.Got,Closed:=p.Links.Closed.set c (zpe p c now).1.Closed } }
def z0u (p:za) (c:Int):Prop:=p.Links.On.get c=false∨(dOf p c=[]∧p.Links.Done.get c=[]∧p.Links.Fresh.get c=false)
instance (p:za) (c:Int):Decidable (z0u p c):=by
 have:Decidable (dOf p c=[]):=decidable_of_iff ((dOf p c).length=0) List.length_eq_zero_iff
 have:Decidable (p.Links.Done.get c=[]):=decidable_of_iff ((p.Links.Done.get c).length=0) List.length_eq_zero_iff
 exact inferInstanceAs (Decidable (_∨_))
def zeg (p:za) (c now:Int):za :=
 if z0u p c then p else if (zhl (pkOf p c)).2≠0 then p else if (zpe p c now).2≠0 then p else zamz p c now
structure z7y (p:za) (c:Int):Prop where
 t:(p.Links.Told.get c).length≤9223372036854775807
 s:p.Set.length≤6
 d:(p.Links.Done.get c).length≤6
 u:(p.Links.Due.get c).length≤9223372036854775807
theorem quiet_iff {p:za} {c:Int}:z0u p c↔p.Links.On.get c=false∨((dOf p c).length=0∧(p.Links.Done.get c).length=0∧p.Links.Fresh.get c=false):=by
 unfold z0u;rw[List.length_eq_zero_iff,List.length_eq_zero_iff]
theorem zxj {l:List Power} (h:l.length≤6):zao l=some l:=by
 rw[zao,zd3]
 refine Tr.run_split (fun h0=>?_) (fun _=>?_) (.inr trivial)
 ·rw[Tr.rl,List.length_eq_zero_iff.1 h0]
 ·rw[Tr.rg (by simp only[zar,List.length_nil];omega),Tr.rl]
theorem zajh {p:za} {c now:Int} (hf:z7y p c) (hc:0≤c∧c < 2) (hn:0≤now∧now≤1099511627776):zi0 c now p=some (zeg p c now):=by
 obtain ⟨ft,fs,fd,fu⟩:=hf
 have hdl:(dOf p c).length≤6:=zae8 _ _
 have hD:zed (p.Links.Told.get c) p.Set=some (dOf p c):=zamj ft (by omega)
 have hE:zbg (⟨1,p.Height,0,0,dOf p c,p.Links.Done.get c⟩:Packet)=some (zhl (pkOf p c)):=z25 (by show (dOf p c).length*16≤_;omega) (by show (p.Links.Done.get c).length*8≤_;omega)
 rw[zi0,zo0,Tr.rg hc,Tr.rg (by rw[hD];rfl),hD]
 simp only[yy2]
 unfold zeg
 by_cases hq:z0u p c
 ·rw[if_pos hq,Tr.rt (by
   rw[quiet_iff] at hq
   simp only[Bool.or_eq_true,yy7,Bool.not_eq_true',beq_iff_eq]
   rcases hq with h | ⟨h1,h2,h3⟩
   ·exact .inl h
   ·exact .inr ⟨⟨by omega,h3⟩,by omega⟩),Tr.rl]
 ·rw[if_neg hq,Tr.rf (by
   rw[Bool.eq_false_iff]
   intro h
   simp only[Bool.or_eq_true,yy7,Bool.not_eq_true',beq_iff_eq] at h
   refine hq (quiet_iff.2 ?_)
   rcases h with h | ⟨⟨h1,h2⟩,h3⟩
   ·exact .inl h
   ·exact .inr ⟨by omega,by omega,h2⟩),Tr.rg (by rw[hE];rfl),hE]
  simp only[yy2]
  by_cases he:(zhl (pkOf p c)).2≠0
  ·rw[if_pos he,Tr.rt (by simpa using he),Tr.rl]
  ·rw[if_neg he,Tr.rf (by simpa using he),zm (x:=now+40) (by omega) (by omega),Tr.rb (zaoj _ _ _)]
   by_cases hs:(zpe p c now).2≠0
   ·rw[if_pos hs,Tr.rt (by simpa[zpe] using hs),Tr.rl]
   ·rw[if_neg hs,Tr.rf (by simpa[zpe] using hs),Tr.rg (by rw[zxj fs];rfl),Tr.rl,zxj fs]
    rfl
def zwa (p:za) (now:Int):za:={ p with Height:=p.Height+1,Time:=now,Meter:=zafr p.Meter (allP p.Set) now }
def zgw (p:za) (now:Int):za×A2 Bool×List Asked:=p.Queue.foldl z7x (zwa p now,⟨false,false⟩,[])
def znx (p:za) (now:Int):za :=
 { (zgw p now).1 with Stake:=(z5m (zgw p now).1.Stake now).1,Set:=setS (z5m (zgw p now).1.Stake now).1,Queue:=(zgw p now).2.2 }
def zo9 (p:za) (now:Int):za×List Int×Int :=
 if zay p=true∧p.Time≤now∧now≤1099511627776 then (zeg (zeg (znx p now) 0 now) 1 now,(z5m (zgw p now).1.Stake now).2.1,0) else (p,[],2)
theorem zad7 (l:List Power):i6 (allP l):=by
 have:∀ (l:List Power) (t:Int),i6 t→i6 (l.foldl (fun t p=>i64.wrap (t+p.N)) t):=by
  intro l
  induction l with
  | nil=>intro t ht;exact ht
  | cons q l ih=>intro t _;exact ih _ (by show i6 (i64.wrap (t+q.N));rw[IntKind.wrap_i64];unfold i6;omega)
 exact this l 0 (by unfold i6;omega)
theorem z94 {p:za} {now:Int} (hg:zay p=true):DealI (zwa p now) (zwa p now):=by
 obtain ⟨g1,_,_,k0,k1,_⟩:=zjj hg
 unfold z9y at k0 k1
 simp only[yy7] at k0 k1
 exact ⟨p.Stake,p.Links.Done,zafr p.Meter (allP p.Set) now,rfl,g1,k0.2,k1.2⟩
theorem zad8 {p0:za}:∀ (l:List Asked) (i:Nat) (t:za×A2 Bool×List Asked),zacc p0 i t→(∀ a,a∈l→(0≤a.C∧a.C < 2)∧a∈p0.Queue)→zacc p0 (i+l.length) (l.foldl z7x t)
 | [],i,t,h,_=>h
 | a::l,i,t,h,ha=>by
  have:=zad8 l (i+1) (z7x t a) (zad6 h (ha a (List.mem_cons_self ..)).1 (ha a (List.mem_cons_self ..)).2) (fun b hb=>ha b (List.mem_cons_of_mem _ hb))
  rw[List.foldl_cons,List.length_cons,show i+(l.length+1)=i+1+l.length by omega]
  exact this
theorem zaji {p:za} (hg:zay p=true):∀ a,a∈p.Queue→zvm p a=true∧(0≤a.C∧a.C < 2):=by
 intro a ha
 have h:=List.all_eq_true.1 (zjj hg).2.2.2.2.2 a ha
 refine ⟨h,?_⟩
 unfold zvm at h
 simp only[yy7,decide_eq_true_eq] at h
 exact h.1.1.1
theorem z3m {p:za} {now:Int} (hg:zay p=true):zacc (zwa p now) p.Queue.length (zgw p now):=by
 have:=zad8 (p0:=zwa p now) p.Queue 0 (zwa p now,⟨false,false⟩,[]) ⟨z94 hg,by simp,fun c hc=>by rcases (show c=0∨c=1 by omega) with rfl | rfl<;>rfl,fun b hb=>by cases hb⟩ (fun a ha=>⟨(zaji hg a ha).2,ha⟩)
 rwa [Nat.zero_add] at this
theorem zad9 {p:za} (hf:FitPr 140737488351232 p) {now:Int} (hg:zay p=true) (c:Int):z7y (znx p now) c:=by
 have hq:=z3m (now:=now) hg
 obtain ⟨S,D,M,e,hS,d0,d1⟩:=hq.1
 have ht:=hf.told c
 have hu:=hf.due c
 refine ⟨?_,z2y _,?_,?_⟩
 ·show ((zgw p now).1.Links.Told.get c).length≤_
  rw[e];show (p.Links.Told.get c).length≤_;omega
 ·show ((zgw p now).1.Links.Done.get c).length≤6
  exact z1j hq.1.get
 ·show ((zgw p now).1.Links.Due.get c).length≤_
  rw[e];show (p.Links.Due.get c).length≤_;omega
theorem zam0 {p:za} {now:Int} (h:z7y p 1):z7y (zeg p 0 now) 1:=by
 unfold zeg
 split
 ·exact h
 ·split
  ·exact h
  ·split
   ·exact h
   ·exact ⟨h.t,h.s,h.d,h.u⟩
theorem zaea {p:za} {now:Int}:(((!zay p)||(decide (now < p.Time)))||(decide (now > 1099511627776))) = !decide (zay p=true∧p.Time≤now∧now≤1099511627776):=by
 rw[Bool.eq_iff_iff]
 simp only[Bool.or_eq_true,Bool.not_eq_true',decide_eq_true_eq,yy8]
 cases zay p<;>simp<;>omega
theorem zafu {p:za} (hf:FitPr 140737488351232 p) {now:Int}:zcm p now=some (zo9 p now):=by
 have hset:=hf.set
 rw[zcm,zqv,Tr.rb (zji hf)]
 unfold zo9
 by_cases hg:zay p=true∧p.Time≤now∧now≤1099511627776
 ·obtain ⟨hg1,hg2⟩:=hg
  have hnum:=(zjj hg1).2.1
  unfold z0t at hnum
  rw[if_pos ⟨hg1,hg2⟩,Tr.rf (by rw[zaea,decide_eq_true ⟨hg1,hg2⟩];rfl),Tr.rg (by rw[zaom (by omega)];rfl),zaom (by omega)]
  simp only[yy2]
  rw[Tr.rg (by rw[zad1 (zad7 _)];rfl),zad1 (zad7 _),zm (x:=p.Height+1) (by omega) (by omega)]
  simp only[yy2]
  have hloop:=zamy (p0:=zwa p now) (q:=p) (now:=now) (d:=default) (l:=p.Queue) (p:=zwa p now) (z94 hg1) hf.queue (fun a ha=>⟨(zaji hg1 a ha).1,ha⟩)
  have hinv:=z3m (now:=now) hg1
  have hgs:GoodS (zgw p now).1.Stake:=hinv.1.good
  have hpay:=zadw hgs now
  have hz:(z5m (zgw p now).1.Stake now).2.2=0:=by rw[zaiz hgs]
  rw[Tr.rb (show zgu now p.Queue ((p.Queue.length:Nat):Int) 0 (⟨p.Height+1,now,p.Stake,p.Set,p.Links,zafr p.Meter (allP p.Set) now,p.Queue⟩:za) default ⟨false,false⟩ []=some (now,(zgw p now).1,default,(zgw p now).2.2) from hloop)]
  simp only[]
  rw[Tr.rb (show zpu (zgw p now).1.Stake now=_ from zaxa),Tr.rf (by rw[hz];rfl),Tr.rb (zaxd hpay)]
  have h0:=zajh (now:=now) (zad9 hf (now:=now) hg1 0) (by omega) (by omega)
  have h1:=zajh (now:=now) (zam0 (now:=now) (zad9 hf (now:=now) hg1 1)) (by omega) (by omega)
  rw[Tr.rb (v:=((z5m (zgw p now).1.Stake now).2.1,zeg (zeg (znx p now) 0 now) 1 now,default)) (by
   show zki now (z5m (zgw p now).1.Stake now).2.1 0 (znx p now) default=_
   rw[zki,zdw (s':=(now,(z5m (zgw p now).1.Stake now).2.1,((1:Nat):Int),zeg (znx p now) 0 now,default)) (by
     simp only[ze7]
     rw[Tr.rt (by simp),Tr.rb h0,Tr.rl];rfl),
    zdw (s':=(now,(z5m (zgw p now).1.Stake now).2.1,((2:Nat):Int),zeg (zeg (znx p now) 0 now) 1 now,default)) (by
     simp only[ze7]
     rw[Tr.rt (by simp)]
     rw[Tr.rb (show zi0 ((1:Nat):Int) now _=_ from h1),Tr.rl];rfl),
    zga (by
     simp only[ze7]
     rw[Tr.rf (by simp),Tr.rl])]),Tr.rl]
 ·rw[if_neg hg,Tr.rt (by rw[zaea,decide_eq_false hg];rfl),Tr.rl]
theorem z5u:zay z90=true:=by decide
theorem zaeb {p:za} {c now:Int} (h:p.Links.On.get c=false):zeg p c now=p:=by unfold zeg;rw[if_pos (.inl h)]
theorem zfm (l:List Asked):Sl.len (.asked l)=l.length:=rfl
theorem zafv {s:Stake} (hg:GoodS s) {v h:Int} (hv:0≤v∧v < 6):(ziu s v h 50).2.2=0:=by
 unfold ziu
 rw[if_neg (by rw[z5p hg (by omega) hv];simp),if_neg (by omega)]
theorem zajj {s:Stake} (hg:GoodS s) {v:Int} (hv:0≤v∧v < 6) (hd:s.Validators.Dead.get v=false):(zdn s v 2).2=0:=by
 unfold zdn
 rw[if_neg (by rw[z5p hg (by omega) hv];simp),if_neg (by omega),if_neg (by rw[hd];simp),if_neg (by omega)]
theorem zafw (s:Stake) (v h f:Int):(ziu s v h f).1.Validators.Dead=s.Validators.Dead:=by
 unfold ziu
 repeat' split
 all_goals rfl
def z3n (p:za) (v h:Int):za×Int :=
 if zay p=false then (p,2) else if 0≤v∧v < 6 then (if 1≤h∧h≤p.Height then (if p.Stake.Validators.Dead.get v=true then (p,15) else ({ p with Stake:=(zdn (ziu p.Stake v h 50).1 v 2).1 },0)) else (p,2)) else (p,4)
theorem z3o {p:za} (hf:FitPr 140737488351232 p) {v h:Int}:zh7 p v h=some (z3n p v h):=by
 rw[zh7,zjf,Tr.rb (zji hf)]
 unfold z3n
 cases hg:zay p with
 | false=>rw[zy8,Tr.rl,if_pos rfl]
 | true =>
  rw[zy7,if_neg (by simp)]
  by_cases hv:0≤v∧v < 6
  ·rw[Tr.rf (by simp;omega),if_pos hv]
   by_cases hh:1≤h∧h≤p.Height
   ·rw[Tr.rf (by simp;omega),if_pos hh,Tr.rg hv]
    cases hd:p.Stake.Validators.Dead.get v with
    | true=>rw[Tr.rt rfl,Tr.rl,if_pos rfl]
    | false =>
     have hs:=(zjj hg).1
     rw[Tr.rf rfl,if_neg (by simp),Tr.rb z7r,Tr.rf (by rw[zafv hs hv];rfl),Tr.rb zabx,Tr.rf (by rw[zajj (zuw hs v h 50) hv (by rw[zafw];exact hd)];rfl),Tr.rl]
   ·rw[Tr.rt (by simp;omega),Tr.rl,if_neg hh]
  ·rw[Tr.rt (by simp;omega),Tr.rl,if_neg hv]
def zrx (p:za) (c:Int) (s:List UInt8):za×Int :=
 if zay p=false then (p,2) else if (0≤c∧c < 2)∧p.Links.On.get c=true then (if (za7 s).2≠0 then (p,(za7 s).2) else if (za7 s).1.Kind=1 then (p,3) else ({ p with Queue:=p.Queue++[⟨c,(za7 s).1⟩] },0)) else (p,4)
theorem z5v {l:List Asked} (h:l.length*88≤140737488351232):zat l=some l:=by
 rw[zat,zeu]
 refine Tr.run_split (fun h0=>?_) (fun _=>?_) (.inr trivial)
 ·rw[Tr.rl,List.length_eq_zero_iff.1 h0]
 ·rw[Tr.rg (by simp only[zfm,List.length_nil];omega),Tr.rl]
theorem zacd {p:za} (hf:FitPr 140737488351232 p) {c:Int} {a:ByteArray} (ha:a.size≤140737488355328):za4 p c a=some (zrx p c a.data.toList):=by
 have e1:ze0 a=some (za7 a.data.toList):=z9i (s:=a.data.toList) (by have:a.data.toList.length=a.size:=rfl;omega)
 have hq:=hf.queue
 rw[za4,zoy,Tr.rb e1,Tr.rb (zji hf)]
 simp only[z5v hf.queue,Option.isSome_some,yy2]
 unfold zrx
 cases hg:zay p with
 | false=>rw[zy8,Tr.rl,if_pos rfl]
 | true =>
  rw[zy7,if_neg (by simp),Tr.rg (by
   intro h0
   simp only[Bool.or_eq_false_iff,yy8] at h0
   exact ⟨by omega,trivial⟩)]
  by_cases hc:(0≤c∧c < 2)∧p.Links.On.get c=true
  ·rw[if_pos hc,Tr.rf (by rw[hc.2];simp;omega)]
   by_cases hd:(za7 a.data.toList).2=0
   ·rw[Tr.rf (by simpa using hd),if_neg (by simpa using hd)]
    by_cases hk:(za7 a.data.toList).1.Kind=1
    ·rw[Tr.rt (by simpa using hk),if_pos hk,Tr.rl]
    ·rw[Tr.rf (by simpa using hk),if_neg hk,Tr.rg (by trivial),Tr.rg (by simp only[zfm,yy5];omega),Tr.rl]
   ·rw[Tr.rt (by simpa using hd),if_pos hd,Tr.rl]
  ·rw[if_neg hc,Tr.rt (by
    simp only[Bool.or_eq_true,decide_eq_true_eq,Bool.not_eq_true']
    by_cases h1:0≤c∧c < 2
    ·exact .inr (Bool.eq_false_iff.2 (fun h2=>hc ⟨h1,h2⟩))
    ·exact .inl (by omega)),Tr.rl]
theorem z3p {p:Packet} (h:zef p=0):p.Set.length≤6∧p.Done.length≤6:=by
 obtain ⟨_,_,_,_,_,_,_,_,g9,g10,_⟩:=zn3 h
 have l1:=zlr g9 (by omega)
 exact ⟨by omega,z1j g10⟩
theorem zaec {s:List UInt8} (h:(za7 s).2=0):zef (za7 s).1=0:=by
 unfold za7 at h ⊢
 split
 ·rename_i k;rw[if_pos k] at h;cases h
 ·rename_i k
  rw[if_neg k] at h
  split
  ·rename_i k2;rw[if_pos k2] at h;exact absurd h k2
  ·rename_i k2;exact Classical.not_not.1 k2
def zhz (L:Links) (c H:Int) (T:List Power) (f:Bool):Links :=
 ⟨L.On.set c true,L.Gone.set c false,L.Base.set c H,L.Told.set c T,L.Fresh.set c f,L.Done.set c [],L.Said.set c [],L.Due.set c [],L.Got.set c 0,L.Closed.set c false,L.SHeight.set c 0,L.STime.set c 0,L.SSaid.set c 0,L.SGot.set c 0⟩
def zpa (p:za) (c:Int) (W:List Wait) (f:Bool):za:={ p with Stake:={ p.Stake with Waits:=W },Links:=zhz p.Links c p.Height p.Set f }
def zjt (c H:Int) (w:Wait):Wait:=if H < w.Height then { w with h0:=if c=0 then w.Height else w.h0,h1:=if c=1 then w.Height else w.h1 } else w
def zxn (p:za):Bool:=p.Stake.Waits.any (fun w=>decide (p.Height < w.Height))
def zf0 (p:za) (c:Int):za×Int :=
 if zay p=false then (p,2) else if 0≤c∧c < 2 then (if p.Links.Gone.get c=true then (p,11) else if p.Links.On.get c=true then (p,5) else if p.Height < 1∨p.Set.length=0 then (p,13)
  else (zpa p c (p.Stake.Waits.map (zjt c p.Height)) (zxn p),0)) else (p,4)
theorem zaed {α:Type} (q:α→Bool):∀ (l:List α) (b:Bool),l.foldl (fun t w=>t||q w) b=(b||l.any q)
 | [],b=>by simp
 | a::l,b=>by rw[List.foldl_cons,zaed q l,List.any_cons,Bool.or_assoc]
theorem zafx {α:Type} (a:A2 α) (c:Int) (x y:α):(a.set c x).set c y=a.set c y:=by
 unfold A2.set
 by_cases h:c=0
 ·subst h;rfl
 ·by_cases h1:c=1
  ·subst h1;rfl
  ·simp[h,h1]
theorem zaxj {l W:List Wait} {i:Nat} {w:Wait} (hi:i < W.length) (hg:W.getD i default=w):W.set i w=W:=by rw[← hg,z7o hi]
theorem zafy {p z:za} {c:Int} (hc:0≤c∧c < 2) (hw:p.Stake.Waits.length*64≤140737488351232) :
  zh2 c p.Stake.Waits.length 0 (zpa p c p.Stake.Waits false) z=some (zpa p c (p.Stake.Waits.map (zjt c p.Height)) (zxn p),z):=by
 rw[zh2]
 have:=z7p (F:=fun s:Int×Int×Int×za×za=>(zdu s.1 s.2.1 s.2.2.1 s.2.2.2.1 s.2.2.2.2).run) p.Stake.Waits default
  (fun i W (f:Bool)=>(c,(p.Stake.Waits.length:Int),(i:Int),zpa p c W f,z)) (fun _ _=>True) (zjt c p.Height) (fun t w=>t||decide (p.Height < w.Height)) (fun W f=>(zpa p c W f,z)) ?_ ?_ false trivial
 ·rw[zaed] at this
  exact this
 ·intro W t hW _
  simp only[zdu];rw[Tr.rf (by simp),Tr.rl]
 ·intro i W t hi hW hg _
  refine ⟨?_,trivial⟩
  simp only[zdu]
  rw[yy4,show (zpa p c W t).Stake.Waits=W from rfl,hg,show (zpa p c W t).Height=p.Height from rfl]
  generalize hw':p.Stake.Waits.getD i default=w at hg ⊢
  rw[Tr.rt (by simpa using hi),Tr.rg ⟨by omega,by rw[zbc];omega⟩]
  by_cases hp:p.Height < w.Height
  ·rw[Tr.rt (by simpa using hp),Tr.rg hc,Tr.rg hc,Tr.rl,zq (by omega)]
   have e:zjt c p.Height w={ w with h0:=if c=0 then w.Height else w.h0,h1:=if c=1 then w.Height else w.h1 }:=if_pos hp
   rw[e,decide_eq_true hp,Bool.or_true]
   rw[show (zpa p c W t).Links.Fresh=p.Links.Fresh.set c t from rfl,zafx]
   rfl
  ·rw[Tr.rf (by simpa using hp),Tr.rl,zq (by omega)]
   have e:zjt c p.Height w=w:=if_neg hp
   rw[e,decide_eq_false hp,Bool.or_false,zaxj (l:=W) (by omega) hg]
theorem z95 {p:za} (hf:FitPr 140737488351232 p) {c:Int}:zap p c=some (zf0 p c):=by
 rw[zap,zm0,Tr.rb (zji hf)]
 unfold zf0
 cases hg:zay p with
 | false=>rw[zy8,Tr.rl,if_pos rfl]
 | true =>
  rw[zy7,if_neg (by simp)]
  by_cases hc:0≤c∧c < 2
  ·rw[Tr.rf (by simp;omega),if_pos hc,Tr.rg hc]
   cases h1:p.Links.Gone.get c with
   | true=>rw[Tr.rt rfl,Tr.rl,if_pos rfl]
   | false =>
    rw[Tr.rf rfl,if_neg (by simp),Tr.rg hc]
    cases h2:p.Links.On.get c with
    | true=>rw[Tr.rt rfl,Tr.rl,if_pos rfl]
    | false =>
     rw[Tr.rf rfl,if_neg (by simp)]
     have hs:=zlr (zjj hg).2.2.1 (by omega)
     by_cases h3:p.Height < 1∨p.Set.length=0
     ·rw[if_pos h3,Tr.rt (by simp only[Bool.or_eq_true,decide_eq_true_eq,beq_iff_eq];omega),Tr.rl]
     ·have hcl:=zxj (l:=p.Set) (by omega)
      rw[if_neg h3,Tr.rf (by simp only[Bool.or_eq_false_iff,yy8,beq_eq_false_iff_ne];omega),Tr.rg (by rw[hcl];rfl),Tr.rg hc,Tr.rb (zy0 hf.waits),hcl,Tr.rb (v:=(zpa p c (p.Stake.Waits.map (zjt c p.Height)) (zxn p),default)) (by exact zafy hc hf.waits),Tr.rl]
  ·rw[Tr.rt (by simp;omega),Tr.rl,if_neg hc]
def zu8 (L:Links) (c:Int):Links:={ L with On:=L.On.set c false,Gone:=L.Gone.set c true,Fresh:=L.Fresh.set c false,Done:=L.Done.set c [],Closed:=L.Closed.set c true }
def z1k (c:Int) (a:Asked):Bool:=a.C != c
def zzb (p:za) (c:Int):za:={ p with Stake:=zp2 p.Stake c 1099511627776,Links:=zu8 p.Links c,Queue:=p.Queue.filter (z1k c) }
def zu9 (p:za) (c:Int):za:=if zay p=true∧(0≤c∧c < 2)∧p.Links.On.get c=true then zzb p c else p
theorem zaop (a:Asked) (c:Int):zer a c=some (!z1k c a,c):=by
 rw[zer,zjd,Tr.rl]
 unfold z1k
 simp[bne]
theorem zju {α:Type} {l:List α} {i:Nat} (h:i < l.length) (d:α):l.take (i+1)=l.take i++[l.getD i d]:=by
 rw[List.take_succ_eq_append_getElem h,zrs h]
theorem zafz {l:List Asked} {c:Int} (hl:l.length*88≤140737488351232) :
  ∃ r,zbr l.length 0 c l=some r ∧
   (match r with | .inl y=>∃ k:Nat,y=((k:Int),c,l)∧k < l.length∧(l.take k).all (z1k c)=true∧z1k c (l.getD k default)=false | .inr y=>y=(c,l)∧l.all (z1k c)=true):=by
 rw[zbr]
 have:=zhj (F:=fun s:Int×Int×Int×(List Asked)=>(zai s.1 s.2.1 s.2.2.1 s.2.2.2).run) l.length (fun i (_:Unit)=>((l.length:Int),(i:Int),c,l)) (fun i _=>(l.take i).all (z1k c)=true)
  (fun i _ r=>match r with | .inl y=>∃ k:Nat,y=((k:Int),c,l)∧k < l.length∧(l.take k).all (z1k c)=true∧z1k c (l.getD k default)=false | .inr y=>y=(c,l)∧l.all (z1k c)=true) ?_ ?_ 0 () (Nat.zero_le _) rfl
 ·exact this
 ·intro t h
  refine ⟨.inr (c,l),?_,rfl,by rwa [List.take_length] at h⟩
  simp only[zai];rw[Tr.rf (by simp),Tr.rl]
 ·intro i t hi h
  simp only[zai]
  rw[yy4,Tr.rt (by simpa using hi),Tr.rg ⟨by omega,by rw[zfm];omega⟩,Tr.rb (zaop _ _)]
  cases hn:z1k c (l.getD i default) with
  | true=>exact .inl ⟨(),by rw[Tr.rf (by rfl),Tr.rl,zq (by omega)],by rw[zju hi default,List.all_append,h,List.all_cons,hn];rfl,fun r hr=>hr⟩
  | false=>exact .inr ⟨.inl ((i:Int),c,l),by rw[Tr.rt (by rfl),Tr.rl],i,rfl,hi,h,hn⟩
theorem zace {l:List Asked} {c:Int} (hl:l.length*88≤140737488351232) {k:Nat} (hk:k < l.length) (ha:(l.take k).all (z1k c)=true) (hn:z1k c (l.getD k default)=false) :
  ∃ r,zbw k ((k+1:Nat):Int) c l=some r∧∃ n:Nat,r.1=n∧r.2.1=c∧n≤l.length∧r.2.2.length=l.length∧r.2.2.take n=l.filter (z1k c):=by
 rw[zbw]
 have:=zhj (F:=fun s:Int×Int×Int×(List Asked)=>(zak s.1 s.2.1 s.2.2.1 s.2.2.2).run) l.length (fun i (t:Nat×List Asked)=>((t.1:Int),(i:Int),c,t.2)) (fun i t=>t.1 < i∧t.2.length=l.length∧t.2.take t.1=(l.take i).filter (z1k c)∧t.2.drop i=l.drop i)
  (fun i _ r=>∃ n:Nat,r.1=n∧r.2.1=c∧n≤l.length∧r.2.2.length=l.length∧r.2.2.take n=l.filter (z1k c)) ?_ ?_ (k+1) (k,l) (by omega) ⟨by omega,rfl,?_,rfl⟩
 ·exact this
 ·rintro ⟨n,W⟩ ⟨h1,h2,h3,h4⟩
  simp only at h1 h2 h3 h4
  refine ⟨((n:Int),c,W),?_,n,rfl,rfl,by omega,h2,by rw[h3,List.take_length]⟩
  simp only[zak];rw[Tr.rf (by simp;omega),Tr.rl]
 ·rintro i ⟨n,W⟩ hi ⟨h1,h2,h3,h4⟩
  simp only at h1 h2 h3 h4
  have hg:W.getD i default=l.getD i default:=by
   have e1:=zbj (l:=W) (k:=i) (by omega) default
   have e2:=zbj (l:=l) (k:=i) hi default
   rw[h4,e2] at e1
   exact (List.cons.inj e1).1.symm
  have hd:W.drop (i+1)=l.drop (i+1):=by
   have e1:=zbj (l:=W) (k:=i) (by omega) default
   have e2:=zbj (l:=l) (k:=i) hi default
   rw[h4,e2] at e1
   exact (List.cons.inj e1).2.symm
  simp only[zak]
  rw[yy4,yy4,hg,Tr.rt (by simp;omega),Tr.rg ⟨by omega,by rw[zfm];omega⟩,Tr.rb (zaop _ _)]
  cases hq:z1k c (l.getD i default) with
  | true =>
   refine .inl ⟨(n+1,W.set n (l.getD i default)),by rw[Tr.rt (by rfl),Tr.rg ⟨by omega,by rw[zfm];omega⟩,Tr.rl,zq (by omega),zq (by omega)],⟨by simp only[];omega,by simp only[List.length_set];exact h2,?_,?_⟩,fun r hr=>hr⟩
   ·simp only[]
    rw[zju (by rw[List.length_set];omega) default,List.take_set_of_le (by omega),h3,zju hi default,List.filter_append,zrs (by rw[List.length_set];omega),List.getElem_set_self,List.filter_cons,hq]
    rfl
   ·simp only[]
    rw[List.drop_set_of_lt (by omega),hd]
  | false =>
   refine .inl ⟨(n,W),by rw[Tr.rf (by rfl),Tr.rl,zq (by omega)],⟨by simp only[];omega,h2,?_,hd⟩,fun r hr=>hr⟩
   simp only[]
   rw[h3,zju hi default,List.filter_append,List.filter_cons,hq]
   simp
 ·simp only[]
  rw[zju hk default,List.filter_append,List.filter_cons,hn,List.filter_eq_self.2 (fun a h=>List.all_eq_true.1 ha a h)]
  simp
theorem zaf0 {l:List Asked} {c:Int} (hl:l.length*88≤140737488351232):zcl c l=some (c,l.filter (z1k c)):=by
 have hi:za6 c l=some (-1,c,l)∧l.all (z1k c)=true∨∃ k:Nat,za6 c l=some ((k:Int),c,l)∧k < l.length∧(l.take k).all (z1k c)=true∧z1k c (l.getD k default)=false:=by
  obtain ⟨r,h1,h2⟩:=zafz (c:=c) hl
  rw[za6,zck]
  cases r with
  | inl y =>
   obtain ⟨k,rfl,h3,h4,h5⟩:=h2
   exact .inr ⟨k,by rw[Tr.ri h1,Tr.rl],h3,h4,h5⟩
  | inr y =>
   obtain ⟨rfl,h3⟩:=h2
   exact .inl ⟨by rw[Tr.rj h1,Tr.rl],h3⟩
 rw[zcl,zc2]
 rcases hi with ⟨h1,h2⟩ | ⟨k,h1,h2,h3,h4⟩
 ·rw[Tr.rb h1,Tr.rt (by rfl),Tr.rl,List.filter_eq_self.2 (fun a h=>List.all_eq_true.1 h2 a h)]
 ·obtain ⟨r,k1,n,k2,k3,k4,k5,k6⟩:=zace hl h2 h3 h4
  have hcl:z8d r.2.2 r.1=some (r.2.2.take n++List.replicate (r.2.2.length - n) default):=by
   unfold z8d
   rw[k2,if_pos (by omega),yy4]
  have hlt:(r.2.2.take n).length=n:=by rw[List.length_take];omega
  rw[Tr.rb h1,Tr.rf (by simp),zq (by omega),Tr.rb k1,Tr.rb hcl,k2,Tr.rg ⟨by omega,by rw[zfm,yy6,hlt];omega⟩,Tr.rl,k3,yy4,List.drop_zero,Nat.sub_zero,List.take_left' hlt,k6]
theorem z7z {p:za} (hf:FitPr 140737488351232 p) {c:Int}:zc0 p c=some (zu9 p c):=by
 rw[zc0,zlh,Tr.rb (zji hf)]
 unfold zu9
 rw[Tr.rg (by
  intro h0
  simp only[Bool.or_eq_false_iff,yy8] at h0
  exact ⟨by omega,trivial⟩)]
 by_cases h:zay p=true∧(0≤c∧c < 2)∧p.Links.On.get c=true
 ·obtain ⟨h1,h2,h3⟩:=h
  rw[if_pos ⟨h1,h2,h3⟩,Tr.rf (by rw[h1,h3];simp;omega),Tr.rg h2,Tr.rg h2,Tr.rg h2,Tr.rg h2,Tr.rg h2,Tr.rb (zz0 hf.waits),Tr.rb (z5v hf.queue),Tr.rb (zaf0 hf.queue),Tr.rl]
  rfl
 ·rw[if_neg h,Tr.rt (by
   simp only[Bool.or_eq_true,decide_eq_true_eq,Bool.not_eq_true']
   cases h1:zay p with
   | false=>exact .inl (.inl (.inl rfl))
   | true =>
    by_cases h2:0≤c∧c < 2
    ·exact .inr (Bool.eq_false_iff.2 (fun h3=>h ⟨h1,h2,h3⟩))
    ·exact .inl (by omega)),Tr.rl]
theorem z96 {α:Type} {P:α→Prop} {a:A2 α} (h0:P (a.get 0)) (h1:P (a.get 1)) (c:Int):P (a.get c):=by
 by_cases h:c=0
 ·rw[h];exact h0
 ·have:a.get c=a.get 1:=by unfold A2.get;rw[if_neg h];rfl
  rw[this];exact h1
theorem z3q {m:Int}:∀ {l:List Power} {p:Int},(∀ q,q∈l→p < q.V∧q.V≤5∧m≤q.N∧q.N≤1125899906842624)→l.Pairwise (fun a b=>a.V < b.V)→z6 m p l=true
 | [],p,_,_=>rfl
 | q::l,p,h1,h2=>by
  have hq:=h1 q (List.mem_cons_self ..)
  rw[List.pairwise_cons] at h2
  simp only[z6,yy7,decide_eq_true_eq]
  exact ⟨⟨⟨⟨hq.1,hq.2.1⟩,hq.2.2.1⟩,hq.2.2.2⟩,z3q (fun x hx=>⟨h2.1 x hx,(h1 x (List.mem_cons_of_mem _ hx)).2⟩) h2.2⟩
theorem zaxk {s:Stake} (hg:GoodS s):z6 1 (-1) (setS s)=true:=by
 refine z3q (fun q hq=>?_) (zuv _)
 obtain ⟨hv,_,hn,h1⟩:=zamn hg hq
 have:=(hg.at hv).1.1
 unfold inA at this
 omega
def GoodX (p:za):Prop:=GoodS p.Stake∧(0≤p.Height∧0≤p.Time∧p.Time≤1099511627776)∧z6 1 (-1) p.Set=true∧z9y p 0=true∧z9y p 1=true∧p.Queue.all (zvm p)=true
theorem goodPr_iff {p:za}:zay p=true↔GoodX p∧p.Height < 1099511627776:=by
 constructor
 ·intro h
  obtain ⟨a,⟨b1,b2,b3,b4⟩,c,d,e,f⟩:=zjj h
  exact ⟨⟨a,⟨b1,b3,b4⟩,c,d,e,f⟩,b2⟩
 ·rintro ⟨⟨a,⟨b1,b3,b4⟩,c,d,e,f⟩,b2⟩
  unfold zay
  simp only[yy7,decide_eq_true_eq]
  exact ⟨⟨⟨⟨⟨a,b1,b2,b3,b4⟩,c⟩,d⟩,e⟩,f⟩
structure LkX (p:za) (c:Int):Prop where
 on:¬ (p.Links.On.get c=true∧p.Links.Gone.get c=true)
 b0:0≤p.Links.Base.get c
 b1:p.Links.Base.get c≤p.Height
 told:z6 1 (-1) (p.Links.Told.get c)=true
 line:zep (ziv p.Links c)
 done:zas (-1) (p.Links.Done.get c)=true
theorem okLk_iff {p:za} {c:Int}:z9y p c=true↔LkX p c:=by
 unfold z9y
 simp only[yy7,decide_eq_true_eq]
 constructor
 ·rintro ⟨⟨⟨⟨⟨h1,h2⟩,h3⟩,h4⟩,h5⟩,h6⟩
  exact ⟨fun ⟨x,y⟩=>(by rw[x,y] at h1;cases h1),h2,h3,h4,h5,h6⟩
 ·rintro ⟨h1,h2,h3,h4,h5,h6⟩
  refine ⟨⟨⟨⟨⟨?_,h2⟩,h3⟩,h4⟩,h5⟩,h6⟩
  cases x:p.Links.On.get c
  ·rfl
  ·cases y:p.Links.Gone.get c
   ·rfl
   ·exact absurd ⟨x,y⟩ h1
theorem GoodX.lk {p:za} (h:GoodX p) {c:Int} (hc:0≤c∧c < 2):LkX p c:=by
 rcases (show c=0∨c=1 by omega) with rfl | rfl
 ·exact okLk_iff.1 h.2.2.2.1
 ·exact okLk_iff.1 h.2.2.2.2.1
theorem ask_iff {p:za} {a:Asked}:zvm p a=true↔(0≤a.C∧a.C < 2)∧p.Links.On.get a.C=true∧zef a.P=0∧a.P.Kind≠1:=by
 unfold zvm
 simp only[yy7,decide_eq_true_eq,beq_iff_eq,Bool.not_eq_true',beq_eq_false_iff_ne]
 constructor
 ·rintro ⟨⟨⟨⟨c0,c1⟩,c2⟩,c3⟩,c4⟩;exact ⟨⟨c0,c1⟩,c2,c3,c4⟩
 ·rintro ⟨⟨c0,c1⟩,c2,c3,c4⟩;exact ⟨⟨⟨⟨c0,c1⟩,c2⟩,c3⟩,c4⟩
theorem GoodX.ask {p:za} (h:GoodX p) {a:Asked} (ha:a∈p.Queue):(0≤a.C∧a.C < 2)∧p.Links.On.get a.C=true∧zef a.P=0∧a.P.Kind≠1:=ask_iff.1 (List.all_eq_true.1 h.2.2.2.2.2 a ha)
theorem fitX {p:za} (h:GoodX p) {R:Nat} (hR:100000≤R) (hq:p.Queue.length*88≤R):FitPr R p:=by
 have l0:=h.lk (c:=0) (by omega)
 have l1:=h.lk (c:=1) (by omega)
 have lp:∀ {l:List Power},z6 1 (-1) l=true→l.length*16≤R:=fun hl=>by have:=zlr hl (by omega);omega
 have ld:∀ {l:List Int},zas (-1) l=true→l.length*8≤R:=fun hl=>by have:=z1j hl;omega
 have lS:∀ {c:Int},LkX p c→(p.Links.Said.get c).length≤400∧(p.Links.Due.get c).length≤400:=by
  intro c l
  have e1:(p.Links.Said.get c).length=(p.Links.Due.get c).length:=l.line.1
  have e2:(p.Links.Said.get c).length≤400:=l.line.2.1
  omega
 have s0:=lS l0
 have s1:=lS l1
 have hw:p.Stake.Waits.length≤60:=h.1.2.1.2.2
 have t0:=lp l0.told;have t1:=lp l1.told;have d0:=ld l0.done;have d1:=ld l1.done
 have hset:=lp h.2.2.1
 have hask:=fun a ha=>z3p (h.ask (a:=a) ha).2.2.1
 have hw':p.Stake.Waits.length*64≤R:=by omega
 have a0:(p.Links.Said.get 0).length*16≤R:=by omega
 have a1:(p.Links.Said.get 1).length*16≤R:=by omega
 have b0:(p.Links.Due.get 0).length*8≤R:=by omega
 have b1:(p.Links.Due.get 1).length*8≤R:=by omega
 have hps:∀ a,a∈p.Queue→a.P.Set.length*16≤R∧a.P.Done.length*8≤R:=fun a ha=>by have:=hask a ha;omega
 exact ⟨hw',hset,fun c=>z96 (P:=fun l:List Power=>l.length*16≤R) (a:=p.Links.Told) t0 t1 c,fun c=>z96 (P:=fun l:List Int=>l.length*8≤R) (a:=p.Links.Done) d0 d1 c,
  fun c=>z96 (P:=fun l:List ByteArray=>l.length*16≤R) (a:=p.Links.Said) a0 a1 c,fun c=>z96 (P:=fun l:List Int=>l.length*8≤R) (a:=p.Links.Due) b0 b1 c,hq,hps⟩
theorem zaf1 {l:zcd} {s:ByteArray} {u:Int} (h:zep l) (hu:0≤u):zep (z7e l s u).1:=by
 unfold z7e
 rw[if_neg (by rintro (k | k);exact k h;omega)]
 split
 ·exact h
 ·split
  ·exact h
  ·rename_i h4
   obtain ⟨g1,g2,g3,g4,g5⟩:=h
   refine ⟨by simp[g1],by simp only[yy6,yy5];omega,g3,by simp only[yy6,yy5];omega,?_⟩
   simp only[List.any_append,g5,Bool.false_or,List.any_cons,List.any_nil,Bool.or_false,yy8]
   omega
theorem z1l {p:za} (hg:zay p=true) (now:Int):∃ S D M,(zgw p now).1=upP (zwa p now) S D M∧GoodS S∧(∀ c:Int,zas (-1) (D.get c)=true)∧(zgw p now).2.2.length≤p.Queue.length∧∀ b,b∈(zgw p now).2.2→b∈p.Queue:=by
 obtain ⟨⟨S,D,M,e,hS,d0,d1⟩,hq2,hq3,hq4⟩:=z3m (now:=now) hg
 exact ⟨S,D,M,e,hS,z96 (P:=fun l=>zas (-1) l=true) d0 d1,hq2,hq4⟩
theorem z97 {p:za} (hg:zay p=true) {now:Int} (hn:p.Time≤now∧now≤1099511627776):GoodX (znx p now):=by
 obtain ⟨S,D,M,e,hS,hd,hl,hm⟩:=z1l hg now
 have hx:=(goodPr_iff.1 hg).1
 have hp:=zadw hS now
 have hn0:=hx.2.1
 unfold znx
 rw[e]
 refine ⟨hp,⟨by show 0≤p.Height+1;omega,by show 0≤now;omega,hn.2⟩,zaxk hp,okLk_iff.2 ?_,okLk_iff.2 ?_,List.all_eq_true.2 fun b hb=>?_⟩
 ·obtain ⟨a1,a2,a3,a4,a5,a6⟩:=hx.lk (c:=0) (by omega)
  exact ⟨a1,a2,by show p.Links.Base.get 0≤p.Height+1;omega,a4,a5,hd 0⟩
 ·obtain ⟨a1,a2,a3,a4,a5,a6⟩:=hx.lk (c:=1) (by omega)
  exact ⟨a1,a2,by show p.Links.Base.get 1≤p.Height+1;omega,a4,a5,hd 1⟩
 ·exact ask_iff.2 (hx.ask (hm b hb))
theorem zzc (p:za) (c now:Int):(zeg p c now).Height=p.Height∧(zeg p c now).Time=p.Time∧(zeg p c now).Stake=p.Stake∧(zeg p c now).Set=p.Set∧(zeg p c now).Meter=p.Meter∧(zeg p c now).Queue=p.Queue ∧
  (zeg p c now).Links.On=p.Links.On∧(zeg p c now).Links.Gone=p.Links.Gone∧(zeg p c now).Links.Base=p.Links.Base∧(zeg p c now).Links.SHeight=p.Links.SHeight∧(zeg p c now).Links.STime=p.Links.STime∧(zeg p c now).Links.SSaid=p.Links.SSaid∧(zeg p c now).Links.SGot=p.Links.SGot:=by
 unfold zeg
 repeat' split
 all_goals exact ⟨rfl,rfl,rfl,rfl,rfl,rfl,rfl,rfl,rfl,rfl,rfl,rfl,rfl⟩
theorem z5w {p:za} {c j now:Int} (hc:0≤c∧c < 2) (hj:0≤j∧j < 2) (h:j≠c):(zeg p c now).Links.Told.get j=p.Links.Told.get j∧(zeg p c now).Links.Fresh.get j=p.Links.Fresh.get j∧(zeg p c now).Links.Done.get j=p.Links.Done.get j∧ziv (zeg p c now).Links j=ziv p.Links j:=by
 unfold zeg
 repeat' split
 ·exact ⟨rfl,rfl,rfl,rfl⟩
 ·exact ⟨rfl,rfl,rfl,rfl⟩
 ·exact ⟨rfl,rfl,rfl,rfl⟩
 ·unfold zamz ziv
  simp only[zav _ _ hc hj,if_neg h]
  exact ⟨trivial,trivial,trivial,trivial⟩
theorem zaxl {p:za} {c:Int} (hs:z6 1 (-1) p.Set=true):z6 0 (-1) (dOf p c)=true:=by
  have hb:∀ v:Nat,0≤fP p.Set v∧fP p.Set v≤1125899906842624:=by
    intro v
    unfold fP
    have hm:=zn2 (by omega) hs (by omega)
    revert hm
    generalize p.Set=l
    intro hm
    induction l with
    | nil=>simp[zd7]
    | cons q l ih =>
      simp only[zd7]
      split
      · have:=hm q (List.mem_cons_self ..);omega
      · exact ih (fun q hq=>hm q (List.mem_cons_of_mem _ hq))
  unfold dOf
  generalize fP p.Set=g at hb
  generalize fP (p.Links.Told.get c)=f
  have hm:∀ q,q∈zv5 f g→∃ v:Nat,v < 6∧q=⟨v,g v⟩:=by
    intro q hq
    rw[z20] at hq
    simp only[List.mem_append,List.not_mem_nil,or_false] at hq
    have key:∀ v:Nat,v < 6→q∈z2z (v:Int) (g v) (f v)→∃ v:Nat,v < 6∧q=⟨v,g v⟩:=by
      intro v hv h
      unfold z2z at h
      split at h
      · exact ⟨v,hv,List.mem_singleton.1 h⟩
      · cases h
    rcases hq with h | h | h | h | h | h
    · exact key 0 (by omega) h
    · exact key 1 (by omega) h
    · exact key 2 (by omega) h
    · exact key 3 (by omega) h
    · exact key 4 (by omega) h
    · exact key 5 (by omega) h
  refine z3q (fun q hq=>?_) ?_
  · obtain ⟨v,hv,rfl⟩:=hm q hq
    have:=hb v
    refine ⟨by show (-1:Int) < (v:Int);omega,by show (v:Int)≤5;omega,this.1,this.2⟩
  · rw[z20]
    have one:∀ (v:Int) (x y:Int),(z2z v x y).Pairwise (fun a b=>a.V < b.V):=by
      intro v x y;unfold z2z;split
      · exact List.pairwise_singleton ..
      · exact .nil
    have mem:∀ {v x y:Int} {q:Power},q∈z2z v x y→q.V=v:=by
      intro v x y q h;unfold z2z at h;split at h
      · rw[List.mem_singleton.1 h]
      · cases h
    refine List.pairwise_append.2 ⟨one _ _ _,List.pairwise_append.2 ⟨one _ _ _,List.pairwise_append.2 ⟨one _ _ _,List.pairwise_append.2 ⟨one _ _ _,List.pairwise_append.2 ⟨one _ _ _,List.pairwise_append.2 ⟨one _ _ _,.nil,?_⟩,?_⟩,?_⟩,?_⟩,?_⟩,?_⟩
    all_goals
      intro a ha b hb
      have k:=mem ha
      first
      | (exfalso;cases hb;done)
      | (simp only[List.mem_append,List.not_mem_nil,or_false] at hb
         first
         | (rcases hb with h | h | h | h | h<;>have:=mem h<;>omega)
         | (rcases hb with h | h | h | h<;>have:=mem h<;>omega)
         | (rcases hb with h | h | h<;>have:=mem h<;>omega)
         | (rcases hb with h | h<;>have:=mem h<;>omega)
         | (have:=mem hb;omega))
theorem zajk {p:za} {c:Int} (hs:z6 1 (-1) p.Set=true) (hd:zas (-1) (p.Links.Done.get c)=true) (hH:1≤p.Height∧p.Height≤1099511627776):zef (pkOf p c)=0:=by
 unfold zef pkOf
 simp only[]
 rw[if_neg (by omega),if_neg (by omega),if_neg (by omega),zaxl hs,hd]
 rfl
theorem zam1 {p:za} {c now:Int} (h:GoodX p) (hc:0≤c∧c < 2) (hH:1≤p.Height∧p.Height≤1099511627776) (hn:0≤now) :
  (zeg p c now=p∧(z0u p c∨p.Links.Closed.get c=true∨400≤(p.Links.Said.get c).length)) ∨
  (¬ z0u p c∧p.Links.Closed.get c=false∧(p.Links.Said.get c).length < 400∧(zeg p c now).Links={ p.Links with Told:=p.Links.Told.set c p.Set,Fresh:=p.Links.Fresh.set c false,Done:=p.Links.Done.set c [],Said:=p.Links.Said.set c (p.Links.Said.get c++[txt (zvl (pkOf p c))]),Due:=p.Links.Due.set c (p.Links.Due.get c++[now+40]) }):=by
 have lk:=h.lk hc
 have hg:=zajk (c:=c) h.2.2.1 lk.done hH
 unfold zeg
 by_cases hq:z0u p c
 ·rw[if_pos hq];exact .inl ⟨rfl,.inl hq⟩
 ·rw[if_neg hq,zmm hg,if_neg (by simp)]
  have hu:¬ (¬ zep (ziv p.Links c)∨now+40 < 0):=by rintro (k | k);exact k lk.line;omega
  cases hcl:p.Links.Closed.get c with
  | true =>
   have:zpe p c now=(ziv p.Links c,11):=by unfold zpe z7e;rw[if_neg hu,if_pos hcl]
   rw[this,if_pos (by simp)];exact .inl ⟨rfl,.inr (.inl rfl)⟩
  | false =>
   by_cases h4:400≤(p.Links.Said.get c).length
   ·have:zpe p c now=(ziv p.Links c,6):=by unfold zpe z7e;rw[if_neg hu,if_neg (by simp[hcl]),if_pos h4]
    rw[this,if_pos (by simp)];exact .inl ⟨rfl,.inr (.inr h4)⟩
   ·have e:zpe p c now=(⟨p.Links.Said.get c++[txt (zvl (pkOf p c))],p.Links.Due.get c++[now+40],p.Links.Got.get c,p.Links.Closed.get c⟩,0):=by
     unfold zpe z7e;rw[if_neg hu,if_neg (by simp[hcl]),if_neg h4,zmm hg]
    rw[if_neg (by rw[e];simp)]
    refine .inr ⟨hq,rfl,by omega,?_⟩
    unfold zamz
    rw[e]
    simp only[zs0 _ hc]
theorem z3r {p:za} {c now:Int} (h:GoodX p) (hc:0≤c∧c < 2) (hn:0≤now):GoodX (zeg p c now):=by
 unfold zeg
 repeat' split
 ·exact h
 ·exact h
 ·exact h
 ·have hlk:∀ j:Int,0≤j∧j < 2→LkX (zamz p c now) j:=by
   intro j hj
   obtain ⟨a1,a2,a3,a4,a5,a6⟩:=h.lk hj
   by_cases e:j=c
   ·subst e
    refine ⟨a1,a2,a3,?_,?_,?_⟩
    ·show z6 1 (-1) ((p.Links.Told.set j p.Set).get j)=true
     rw[zav _ _ hj hj,if_pos rfl];exact h.2.2.1
    ·show zep ⟨(p.Links.Said.set j (zpe p j now).1.Said).get j,(p.Links.Due.set j (zpe p j now).1.Due).get j,(p.Links.Got.set j (zpe p j now).1.Got).get j,(p.Links.Closed.set j (zpe p j now).1.Closed).get j⟩
     simp only[zav _ _ hj hj,if_pos]
     refine zaf1 a5 ?_
     have:0≤now:=hn
     omega
    ·show zas (-1) ((p.Links.Done.set j []).get j)=true
     rw[zav _ _ hj hj,if_pos rfl];rfl
   ·refine ⟨a1,a2,a3,?_,?_,?_⟩
    ·show z6 1 (-1) ((p.Links.Told.set c p.Set).get j)=true
     rw[zav _ _ hc hj,if_neg e];exact a4
    ·show zep ⟨(p.Links.Said.set c (zpe p c now).1.Said).get j,(p.Links.Due.set c (zpe p c now).1.Due).get j,(p.Links.Got.set c (zpe p c now).1.Got).get j,(p.Links.Closed.set c (zpe p c now).1.Closed).get j⟩
     simp only[zav _ _ hc hj,if_neg e]
     exact a5
    ·show zas (-1) ((p.Links.Done.set c []).get j)=true
     rw[zav _ _ hc hj,if_neg e];exact a6
  exact ⟨h.1,h.2.1,h.2.2.1,okLk_iff.2 (hlk 0 (by omega)),okLk_iff.2 (hlk 1 (by omega)),h.2.2.2.2.2⟩
theorem zam2 {p:za} (hg:zay p=true) {now:Int} (hn:p.Time≤now∧now≤1099511627776):GoodX (zo9 p now).1:=by
 unfold zo9
 rw[if_pos ⟨hg,hn⟩]
 have h0:=(goodPr_iff.1 hg).1.2.1
 exact z3r (z3r (z97 hg hn) (by omega) (by omega)) (by omega) (by omega)
theorem z98 {p:za} (hg:zay p=true) {c:Int} (hc:0≤c∧c < 2):zay (zzb p c)=true:=by
 obtain ⟨hx,hH⟩:=goodPr_iff.1 hg
 have hlk:∀ j:Int,0≤j∧j < 2→LkX (zzb p c) j:=by
  intro j hj
  obtain ⟨a1,a2,a3,a4,a5,a6⟩:=hx.lk hj
  refine ⟨?_,a2,a3,a4,a5,?_⟩
  ·show ¬ ((p.Links.On.set c false).get j=true∧(p.Links.Gone.set c true).get j=true)
   rw[zav _ _ hc hj,zav _ _ hc hj]
   by_cases e:j=c
   ·rw[if_pos e];simp
   ·rw[if_neg e,if_neg e];exact a1
  ·show zas (-1) ((p.Links.Done.set c []).get j)=true
   rw[zav _ _ hc hj]
   by_cases e:j=c
   ·rw[if_pos e];rfl
   ·rw[if_neg e];exact a6
 refine goodPr_iff.2 ⟨⟨z0s hx.1,hx.2.1,hx.2.2.1,okLk_iff.2 (hlk 0 (by omega)),okLk_iff.2 (hlk 1 (by omega)),List.all_eq_true.2 fun b hb=>ask_iff.2 ?_⟩,hH⟩
 obtain ⟨h1,h2⟩:=List.mem_filter.1 hb
 obtain ⟨q1,q2,q3,q4⟩:=hx.ask h1
 refine ⟨q1,?_,q3,q4⟩
 show (p.Links.On.set c false).get b.C=true
 rw[zav _ _ hc q1,if_neg (by simpa[z1k] using h2)]
 exact q2
theorem zars {p:za} {now:Int} (h:zay p=true∧p.Time≤now∧now≤1099511627776):(zo9 p now).2.2=0:=by unfold zo9;rw[if_pos h]
theorem zam3 {p:za} {now:Int} (h:zay p=true∧p.Time≤now∧now≤1099511627776) :
  (zo9 p now).1.Height=p.Height+1∧(zo9 p now).1.Time=now∧(zo9 p now).1.Stake=(z5m (zgw p now).1.Stake now).1∧(zo9 p now).1.Set=setS (z5m (zgw p now).1.Stake now).1∧(zo9 p now).1.Queue=(zgw p now).2.2 ∧
  (zo9 p now).1.Links.On=p.Links.On∧(zo9 p now).1.Links.Gone=p.Links.Gone∧(zo9 p now).1.Links.Base=p.Links.Base:=by
 unfold zo9
 rw[if_pos h]
 obtain ⟨S,D,M,e,-⟩:=z1l h.1 now
 obtain ⟨a1,a2,a3,a4,a5,a6,a7,a8,a9,-⟩:=zzc (zeg (znx p now) 0 now) 1 now
 obtain ⟨b1,b2,b3,b4,b5,b6,b7,b8,b9,-⟩:=zzc (znx p now) 0 now
 simp only[a1,a2,a3,a4,a6,a7,a8,a9,b1,b2,b3,b4,b6,b7,b8,b9]
 refine ⟨?_,?_,rfl,rfl,rfl,?_,?_,?_⟩
 all_goals
  unfold znx
  rw[e]
  rfl
def zaxm (on fresh:Bool) (told:List Power) (D:List Int) (l:zcd) (H now:Int) (set told':List Power) (D':List Int) (fresh':Bool) (l':zcd):Prop :=
 (told'=told∧D'=D∧fresh'=fresh∧l'=l∧(on=false∨(zv5 (fP told) (fP set)=[]∧D=[]∧fresh=false)∨l.Closed=true∨400≤l.Said.length)) ∨
 (told'=set∧D'=[]∧fresh'=false∧on=true∧l.Closed=false∧l.Said.length < 400∧¬ (zv5 (fP told) (fP set)=[]∧D=[]∧fresh=false)∧zef ⟨1,H,0,0,zv5 (fP told) (fP set),D⟩=0 ∧
  l'=⟨l.Said++[txt (zvl ⟨1,H,0,0,zv5 (fP told) (fP set),D⟩)],l.Due++[now+40],l.Got,l.Closed⟩)
theorem z99 {p:za} {c now:Int} (h:GoodX p) (hc:0≤c∧c < 2) (hH:1≤p.Height∧p.Height≤1099511627776) (hn:0≤now) :
  zaxm (p.Links.On.get c) (p.Links.Fresh.get c) (p.Links.Told.get c) (p.Links.Done.get c) (ziv p.Links c) p.Height now p.Set ((zeg p c now).Links.Told.get c) ((zeg p c now).Links.Done.get c) ((zeg p c now).Links.Fresh.get c) (ziv (zeg p c now).Links c):=by
 rcases zam1 h hc hH hn with ⟨e,h1⟩ | ⟨h1,h2,h3,e⟩
 ·rw[e]
  refine .inl ⟨rfl,rfl,rfl,rfl,?_⟩
  rcases h1 with (h1 | h1) | h1 | h1
  ·exact .inl h1
  ·exact .inr (.inl h1)
  ·exact .inr (.inr (.inl h1))
  ·exact .inr (.inr (.inr h1))
 ·rw[e]
  have on:p.Links.On.get c=true:=by
   cases o:p.Links.On.get c with
   | true=>rfl
   | false=>exact absurd (.inl o) h1
  refine .inr ⟨?_,?_,?_,on,h2,h3,fun k=>h1 (.inr k),zajk h.2.2.1 (h.lk hc).done hH,?_⟩
  ·simp only[zav _ _ hc hc,if_pos]
  ·simp only[zav _ _ hc hc,if_pos]
  ·simp only[zav _ _ hc hc,if_pos]
  ·unfold ziv
   simp only[zav _ _ hc hc,if_pos]
   rfl
theorem zajl {p:za} (hg:zay p=true) (now:Int):(znx p now).Height=p.Height+1∧(znx p now).Links.On=p.Links.On∧(znx p now).Links.Fresh=p.Links.Fresh∧(znx p now).Links.Told=p.Links.Told∧(∀ c,ziv (znx p now).Links c=ziv p.Links c):=by
 obtain ⟨S,D,M,e,-⟩:=z1l hg now
 unfold znx
 rw[e]
 exact ⟨rfl,rfl,rfl,rfl,fun _=>rfl⟩
theorem zam4 {p:za} {now:Int} (h:zay p=true∧p.Time≤now∧now≤1099511627776) {c:Int} (hc:0≤c∧c < 2) :
  ∃ D,D=(znx p now).Links.Done.get c∧zaxm (p.Links.On.get c) (p.Links.Fresh.get c) (p.Links.Told.get c) D (ziv p.Links c) (zo9 p now).1.Height now (zo9 p now).1.Set ((zo9 p now).1.Links.Told.get c) ((zo9 p now).1.Links.Done.get c) ((zo9 p now).1.Links.Fresh.get c) (ziv (zo9 p now).1.Links c):=by
 obtain ⟨hx,hH⟩:=goodPr_iff.1 h.1
 have hn:0≤now:=by have:=hx.2.1.2.1;omega
 have h0:=hx.2.1.1
 have g0:=z97 h.1 h.2
 have g1:=z3r (c:=0) g0 (by omega) hn
 obtain ⟨p1,p2,p3,p4,p5⟩:=zajl h.1 now
 obtain ⟨a1,a2,a3,a4,a5,a6,a7,a8,a9,-⟩:=zzc (zeg (znx p now) 0 now) 1 now
 obtain ⟨b1,b2,b3,b4,b5,b6,b7,b8,b9,-⟩:=zzc (znx p now) 0 now
 refine ⟨_,rfl,?_⟩
 unfold zo9
 rw[if_pos h]
 simp only[]
 rw[a1,a4,b1,b4,← p2,← p3,← p4,← p5 c]
 rcases (show c=0∨c=1 by omega) with rfl | rfl
 ·obtain ⟨t1,t2,t3,t4⟩:=z5w (p:=zeg (znx p now) 0 now) (c:=1) (j:=0) (now:=now) (by omega) (by omega) (by omega)
  rw[t1,t2,t3,t4]
  exact z99 g0 hc (by omega) hn
 ·obtain ⟨t1,t2,t3,t4⟩:=z5w (p:=znx p now) (c:=0) (j:=1) (now:=now) (by omega) (by omega) (by omega)
  have:=z99 (c:=1) (now:=now) g1 hc (by rw[b1];omega) hn
  rw[b7,t1,t2,t3,t4,b1,b4] at this
  exact this
theorem zry {C:zc5} {i j:Int} (hi:0≤i∧i < 2) (hj:0≤j∧j < 2) (c:zb):zc (zny C i c) j=if j=i then c else zc C j:=by
 unfold zc zny
 simp only[zav _ _ hi hj]
 by_cases e:j=i
 ·simp only[if_pos e]
 ·simp only[if_neg e]
theorem zlu {C:zc5} {i:Int} (hi:0≤i∧i < 2) (c:zb):zc (zny C i c) i=c:=by rw[zry hi hi,if_pos rfl]
theorem zjv {C:zc5} {i j:Int} (hi:0≤i∧i < 2) (hj:0≤j∧j < 2) (h:j≠i) (c:zb):zc (zny C i c) j=zc C j:=by rw[zry hi hj,if_neg h]
theorem zaaa {C:zc5} {i:Int} (hi:0≤i∧i < 2):zny C i (zc C i)=C:=by
 unfold zc zny
 simp only[zs0 _ hi]
def z3s (L:Links) (i:Int) (l:zcd):Links:={ L with Said:=L.Said.set i l.Said,Due:=L.Due.set i l.Due,Got:=L.Got.set i l.Got,Closed:=L.Closed.set i l.Closed }
def zacf (L:Links) (i:Int) (h:Head):Links:={ L with SHeight:=L.SHeight.set i h.Height,STime:=L.STime.set i h.Time,SSaid:=L.SSaid.set i h.Said,SGot:=L.SGot.set i h.Got }
theorem zz7 {L:Links} {i j:Int} (hi:0≤i∧i < 2) (hj:0≤j∧j < 2) (l:zcd):zh (z3s L i l) j=if j=i then { zh L j with Out:=l } else zh L j:=by
 unfold zh z3s
 simp only[zav _ _ hi hj]
 by_cases e:j=i
 ·simp only[if_pos e]
 ·simp only[if_neg e]
theorem zxk (L:Links) (i:Int):ziv L i=(zh L i).Out:=rfl
def noW (w:Wld) (e:Int):Wld×Reply:=(w,⟨e,0⟩)
def zam5 (h:zvc) (p:za) (C:zc5):zvc :=
 { h with PHeight:=⟨p.Height,p.Height⟩,PTime:=⟨p.Time,p.Time⟩,PSaid:=⟨((p.Links.Said.x0.length:Nat):Int),((p.Links.Said.x1.length:Nat):Int)⟩,PGot:=C.Got }
def zaxn (h:zvc) (i:Int) (c:zb) (got:Int):zvc :=
 { h with CHeight:=h.CHeight.set i c.Height,CTime:=h.CTime.set i c.Time,CSaid:=h.CSaid.set i ((c.Out.Said.length:Nat):Int),CGot:=h.CGot.set i got }
def zaxo (h:zvc) (i:Int):zvc :=
 ⟨h.PHeight.set i 0,h.PTime.set i 0,h.PSaid.set i 0,h.PGot.set i 0,h.CHeight.set i 0,h.CTime.set i 0,h.CSaid.set i 0,h.CGot.set i 0⟩
def za3t (h:zvc) (i:Int):Head:=⟨h.PHeight.get i,h.PTime.get i,h.PSaid.get i,h.PGot.get i⟩
def za3u (h:zvc) (i:Int):Head:=⟨h.CHeight.get i,h.CTime.get i,h.CSaid.get i,h.CGot.get i⟩
def zp5 (w:Wld):Wld×Reply :=
 if (zo9 w.p w.clock).2.2≠0 then noW w (zo9 w.p w.clock).2.2
 else ({ w with p:=(zo9 w.p w.clock).1,heads:=zam5 w.heads (zo9 w.p w.clock).1 w.consumers },⟨0,(((zo9 w.p w.clock).2.1.length:Nat):Int)⟩)
def z5x (w:Wld) (i:Int):Wld×Reply :=
 if (zf0 w.p i).2≠0 then noW w (zf0 w.p i).2
 else ({ w with p:=(zf0 w.p i).1,consumers:=zny w.consumers i (zs9 (zf0 w.p i).1.Set (zf0 w.p i).1.Height w.clock),heads:=zaxo w.heads i },⟨0,(zf0 w.p i).1.Height⟩)
def z1m (w:Wld) (i:Int):Wld×Reply :=
 if (z73 w.clock (zc w.consumers i)).2≠0 then noW w (z73 w.clock (zc w.consumers i)).2
 else ({ w with consumers:=zny w.consumers i (z73 w.clock (zc w.consumers i)).1,heads:=zaxn w.heads i (z73 w.clock (zc w.consumers i)).1 (w.p.Links.Got.get i) },⟨0,0⟩)
def zaee (w:Wld) (i:Int) (back:Bool):Wld×Reply :=
 if back=true then ({ w with p:={ w.p with Links:=zacf w.p.Links i (za3u w.heads i) } },⟨0,0⟩)
 else ({ w with consumers:=zny w.consumers i { zc w.consumers i with Seen:=za3t w.heads i } },⟨0,0⟩)
def zajm (n:Nat):Packet:=⟨3,1,0,i64.wrap (1+(n:Int)),[],[]⟩
def zajn (l:zcd):ByteArray:=if l.Got < ((l.Said.length:Nat):Int) then l.Said.getD l.Got.toNat .empty else (⟨#[]⟩:ByteArray)
def zmp (l:zcd) (forged:Bool):ByteArray:=if forged=true then (zhl (zajm (zajn l).size)).1 else zajn l
def zgy (w:Wld) (i:Int) (back:Bool):zcd:=if back=true then (zc w.consumers i).Out else (zh w.p.Links i).Out
def zaab (w:Wld) (i:Int) (back:Bool):Int:=if back=true then w.p.Links.SSaid.get i else w.consumers.SSaid.get i
def zpf (w:Wld) (d:Deed):zcd×Int:=znv (zgy w d.C d.Back) (i64.wrap ((zgy w d.C d.Back).Got+1)) (zmp (zgy w d.C d.Back) d.Forged) (zaab w d.C d.Back) w.clock
def zva (w:Wld) (d:Deed):Wld×Reply :=
  if (zpf w d).2≠0 then noW w (zpf w d).2
  else if d.Back=true then
    (if (zrx w.p d.C (zmp (zgy w d.C d.Back) d.Forged).data.toList).2≠0 then noW w (zrx w.p d.C (zmp (zgy w d.C d.Back) d.Forged).data.toList).2
     else ({ w with p:=(zrx w.p d.C (zmp (zgy w d.C d.Back) d.Forged).data.toList).1,consumers:=zny w.consumers d.C { zc w.consumers d.C with Out:=(zpf w d).1 } },⟨0,(zpf w d).1.Got⟩))
  else (if (zy2 (zc w.consumers d.C) (zmp (zgy w d.C d.Back) d.Forged).data.toList).2≠0 then noW w (zy2 (zc w.consumers d.C) (zmp (zgy w d.C d.Back) d.Forged).data.toList).2
     else ({ w with p:={ w.p with Links:=z3s w.p.Links d.C (zpf w d).1 },consumers:=zny w.consumers d.C (zy2 (zc w.consumers d.C) (zmp (zgy w d.C d.Back) d.Forged).data.toList).1 },⟨0,(zpf w d).1.Got⟩))
def zajo (w:Wld) (d:Deed):zcd×Int:=if d.Back=true then zzx (zc w.consumers d.C).Out d.N (w.consumers.STime.get d.C) (w.consumers.SGot.get d.C) else zzx (zh w.p.Links d.C).Out d.N (w.p.Links.STime.get d.C) (w.p.Links.SGot.get d.C)
def zz8 (w:Wld) (d:Deed):Wld×Reply :=
 if (zajo w d).2≠0 then noW w (zajo w d).2 else ({ w with p:=zu9 w.p d.C,consumers:=zny w.consumers d.C (zz3 (zc w.consumers d.C)) },⟨0,0⟩)
def putW (w:Wld) (i:Int) (r:zb×Int):Wld×Reply:=if r.2≠0 then noW w r.2 else ({ w with consumers:=zny w.consumers i r.1 },⟨0,0⟩)
def zvb (w:Wld) (d:Deed):Wld×Reply :=
 if d.Kind < 4∨12 < d.Kind then noW w 3 else if d.C < 0∨2≤d.C then noW w 4 else if d.Kind≠4∧w.consumers.On.get d.C=false then noW w 4
 else if d.Kind=4 then z5x w d.C else if d.Kind=7 then z1m w d.C else if d.Kind=8 then zaee w d.C d.Back else if d.Kind=9 then zva w d else if d.Kind=10 then zz8 w d
 else if d.Kind=11 then putW w d.C (z9w (zc w.consumers d.C) d.V w.clock) else if d.Kind=12 then putW w d.C (zz2 (zc w.consumers d.C) d.V d.N w.clock) else (w,⟨0,0⟩)
def zxl (w:Wld) (r:za×Int):Wld×Reply:=if r.2≠0 then noW w r.2 else ({ w with p:=r.1 },⟨0,0⟩)
def zaef (p:za) (v:Int):za×Int:=({ p with Stake:=(zdn p.Stake v 1).1 },(zdn p.Stake v 1).2)
def zam6 (w:Wld) (n:Int):Wld×Reply:=if n < 1∨1099511627736 - w.clock < n then noW w 2 else ({ w with clock:=w.clock+n },⟨0,w.clock+n⟩)
def actW (w:Wld) (d:Deed):Wld×Reply :=
 if d.Kind=1 then zxl w (zgd w.p d.D d.V d.N) else if d.Kind=2 then zxl w (zhm w.p d.D d.V d.N w.clock) else if d.Kind=3 then zxl w (zaef w.p d.V) else if d.Kind=13 then zxl w (z3n w.p d.V d.N)
 else if d.Kind=5 then zam6 w d.N else if d.Kind=6 then zp5 w else zvb w d
def zd8 (w:Wld):Wld:={ w with deeds:=w.deeds+1 }
def doW (w:Wld) (d:Deed):Wld×Reply:=if 600≤w.deeds then noW w 6 else actW (zd8 w) d
def newW:Wld:=⟨0,z90,default,default,0⟩
def Pk1 (s:ByteArray):Prop:=∃ q,zef q=0∧q.Kind=1∧s=txt (zvl q)
def PkB (s:ByteArray):Prop:=∃ q,zef q=0∧q.Kind≠1∧s=txt (zvl q)
structure ConsW (w:Wld) (i:Int):Prop where
 good:zks (zc w.consumers i)=true
 height:(zc w.consumers i).Height≤w.deeds
 time:(zc w.consumers i).Time≤w.clock
 size:(((zc w.consumers i).Pending.length+(zc w.consumers i).Ripes.length:Nat):Int)≤w.deeds
 on:(zc w.consumers i).On=w.p.Links.On.get i
 gone:(zc w.consumers i).Gone=w.p.Links.Gone.get i
 told:∀ s,s∈(zh w.p.Links i).Out.Said→Pk1 s
 said:∀ s,s∈(zc w.consumers i).Out.Said→PkB s
 fresh:w.p.Links.On.get i=false→w.p.Links.Gone.get i=false→zc w.consumers i=default∧(zh w.p.Links i).Out.Said=[]
structure OkW (w:Wld):Prop where
 d0:0≤w.deeds
 d1:w.deeds≤600
 t0:0≤w.clock
 t1:w.clock≤1099511627736
 p:GoodX w.p
 ph:w.p.Height≤w.deeds
 pt:w.p.Time≤w.clock
 pq:((w.p.Queue.length:Nat):Int)≤w.deeds
 c:∀ i:Int,0≤i∧i < 2→ConsW w i
theorem OkW.pr {w:Wld} (h:OkW w):zay w.p=true:=goodPr_iff.2 ⟨h.p,by have:=h.ph;have:=h.d1;omega⟩
theorem OkW.fit {w:Wld} (h:OkW w):FitPr 140737488351232 w.p:=fitX h.p (by omega) (by have:=h.pq;have:=h.d1;omega)
theorem zart {c:zb} (h:zks c=true) {n:Nat} (hn:n≤1000000) (hs:c.Pending.length+c.Ripes.length≤n):FitC 140737488351232 c:=by
 obtain ⟨g1,g2,g3,g4,g5⟩:=zc3 h
 have e1:=zlr g3 (by omega)
 have e2:c.Out.Said.length=c.Out.Due.length:=g2.1
 have e3:c.Out.Said.length≤400:=g2.2.1
 exact ⟨by omega,by omega,by omega,by omega,by omega,fun p hp=>by have:=z3p (z3j g5 p hp).1;omega⟩
theorem ConsW.fit {w:Wld} {i:Int} (h:ConsW w i) (hd:w.deeds≤600):FitC 140737488351232 (zc w.consumers i) :=
 zart h.good (n:=600) (by omega) (by have:=h.size;omega)
structure SameL (p q:za) (i:Int):Prop where
 on:p.Links.On.get i=q.Links.On.get i
 gone:p.Links.Gone.get i=q.Links.Gone.get i
 said:(zh p.Links i).Out.Said=(zh q.Links i).Out.Said
theorem SameL.refl (p:za) (i:Int):SameL p p i:=⟨rfl,rfl,rfl⟩
theorem SameL.of {p q:za} {i:Int} (h:zh p.Links i=zh q.Links i):SameL p q i:=⟨congrArg Link.On h,congrArg Link.Gone h,by rw[h]⟩
theorem ConsW.more {w w':Wld} {i:Int} (h:ConsW w i) (hc:zc w'.consumers i=zc w.consumers i) (hl:SameL w'.p w.p i) (hd:w.deeds≤w'.deeds) (ht:w.clock≤w'.clock):ConsW w' i:=by
 obtain ⟨e1,e2,e3⟩:=hl
 obtain ⟨a1,a2,a3,a4,a5,a6,a7,a8,a9⟩:=h
 refine ⟨by rw[hc];exact a1,by rw[hc];omega,by rw[hc];omega,by rw[hc];omega,by rw[hc,e1];exact a5,by rw[hc,e2];exact a6,by rw[e3];exact a7,by rw[hc];exact a8,?_⟩
 rw[e1,e2,hc,e3];exact a9
theorem zl5 {w:Wld} (h:OkW w) (hd:w.deeds < 600):OkW (zd8 w) :=
 ⟨by have:=h.d0;show 0≤w.deeds+1;omega,by show w.deeds+1≤600;omega,h.t0,h.t1,h.p,by have:=h.ph;show w.p.Height≤w.deeds+1;omega,h.pt,by have:=h.pq;show ((w.p.Queue.length:Nat):Int)≤w.deeds+1;omega,
  fun i hi=>(h.c i hi).more rfl (.refl _ _) (by show w.deeds≤w.deeds+1;omega) (by exact Int.le_refl _)⟩
theorem zacg:OkW newW:=by
 have g:GoodX z90:=(goodPr_iff.1 z5u).1
 refine ⟨by decide,by decide,by decide,by decide,g,by decide,by decide,by decide,fun i hi=>?_⟩
 have hc:zc newW.consumers i=default:=by rcases (show i=0∨i=1 by omega) with rfl | rfl<;>rfl
 have hl:zh newW.p.Links i=default:=by rcases (show i=0∨i=1 by omega) with rfl | rfl<;>rfl
 have e1:newW.p.Links.On.get i=false:=congrArg Link.On hl
 have e2:newW.p.Links.Gone.get i=false:=congrArg Link.Gone hl
 refine ⟨by rw[hc];decide,by rw[hc];decide,by rw[hc];decide,by rw[hc];decide,by rw[hc,e1];rfl,by rw[hc,e2];rfl,(by rw[hl];intro s hs;cases hs),(by rw[hc];intro s hs;cases hs),fun _ _=>⟨hc,by rw[hl];rfl⟩⟩
theorem z70 {w:Wld} (h:OkW w) {p:za} (hp:GoodX p) (hH:p.Height=w.p.Height) (hT:p.Time=w.p.Time) (hQ:p.Queue.length=w.p.Queue.length) (hl:∀ i:Int,0≤i∧i < 2→SameL p w.p i):OkW { w with p:=p } :=
 ⟨h.d0,h.d1,h.t0,h.t1,hp,by rw[hH];exact h.ph,by rw[hT];exact h.pt,by rw[hQ];exact h.pq,fun i hi=>(h.c i hi).more rfl (hl i hi) (Int.le_refl _) (Int.le_refl _)⟩
theorem z3t {p:za} (h:GoodX p) {s:Stake} (hs:GoodS s):GoodX { p with Stake:=s }:=⟨hs,h.2.1,h.2.2.1,h.2.2.2.1,h.2.2.2.2.1,h.2.2.2.2.2⟩
theorem z3u {w:Wld} (h:OkW w) {s:Stake} (hs:GoodS s):OkW { w with p:={ w.p with Stake:=s } }:=z70 h (z3t h.p hs) rfl rfl rfl fun _ _=>⟨rfl,rfl,rfl⟩
theorem zzd {w:Wld} (h:OkW w) {r:za×Int} (hr:r.2=0→OkW { w with p:=r.1 }):OkW (zxl w r).1:=by
 unfold zxl
 by_cases e:r.2=0
 ·rw[if_neg (by simpa using e)];exact hr e
 ·rw[if_pos e];exact h
theorem zaac {w:Wld} (h:OkW w) (d v n:Int):OkW (zxl w (zgd w.p d v n)).1:=by
 refine zzd h fun h0=>?_
 unfold zgd at h0 ⊢
 rw[if_pos h.pr] at h0 ⊢
 by_cases e:(zdh w.p.Stake d v n).2=0
 ·rw[if_neg (by simpa using e)];exact z3u h (z7t e)
 ·rw[if_pos e] at h0;exact absurd h0 e
theorem zach {p:za} (h:GoodX p):GoodX { p with Links:=zad3 p.Links }:=by
 have hlk:∀ j:Int,0≤j∧j < 2→LkX { p with Links:=zad3 p.Links } j:=by
  intro j hj
  obtain ⟨a1,a2,a3,a4,a5,a6⟩:=h.lk hj
  exact ⟨a1,a2,a3,a4,a5,a6⟩
 exact ⟨h.1,h.2.1,h.2.2.1,okLk_iff.2 (hlk 0 (by omega)),okLk_iff.2 (hlk 1 (by omega)),h.2.2.2.2.2⟩
theorem z4q {w:Wld} (h:OkW w) (d v k:Int):OkW (zxl w (zhm w.p d v k w.clock)).1:=by
 refine zzd h fun h0=>?_
 unfold zhm at h0 ⊢
 have ht:zay w.p=true∧0≤w.clock∧w.clock≤1099511627776:=⟨h.pr,h.t0,by have:=h.t1;omega⟩
 rw[if_pos ht] at h0 ⊢
 by_cases e:(zcc w.p.Stake d v k (z91 w.p w.clock)).2=0
 ·rw[if_neg (by simpa using e)]
  have g:=z3g e
  exact z70 h (z3t (zach h.p) g) rfl rfl rfl fun _ _=>⟨rfl,rfl,rfl⟩
 ·rw[if_pos e] at h0;exact absurd h0 e
theorem zaf2 {w:Wld} (h:OkW w) (v:Int):OkW (zxl w (zaef w.p v)).1 :=
 zzd h fun _=>z3u h (zs1 h.p.1 v (.inr (.inl rfl)))
theorem zam7 {w:Wld} (h:OkW w) (v n:Int):OkW (zxl w (z3n w.p v n)).1:=by
 refine zzd h fun h0=>?_
 unfold z3n at h0 ⊢
 rw[if_neg (by rw[h.pr];simp)] at h0 ⊢
 by_cases h1:0≤v∧v < 6
 ·rw[if_pos h1] at h0 ⊢
  by_cases h2:1≤n∧n≤w.p.Height
  ·rw[if_pos h2] at h0 ⊢
   by_cases h3:w.p.Stake.Validators.Dead.get v=true
   ·rw[if_pos h3] at h0;cases h0
   ·rw[if_neg h3];exact z3u h (zs1 (zuw h.p.1 v n 50) v (.inr (.inr rfl)))
  ·rw[if_neg h2] at h0;cases h0
 ·rw[if_neg h1] at h0;cases h0
theorem zam8 {w:Wld} (h:OkW w) (n:Int):OkW (zam6 w n).1:=by
 unfold zam6
 split
 ·exact h
 ·rename_i hn
  have:=h.t0;have:=h.t1;have:=h.pt
  exact ⟨h.d0,h.d1,by show 0≤w.clock+n;omega,by show w.clock+n≤_;omega,h.p,h.ph,by show w.p.Time≤w.clock+n;omega,h.pq,fun i hi=>(h.c i hi).more rfl (.refl _ _) (Int.le_refl _) (by show w.clock≤w.clock+n;omega)⟩
theorem zaeg {M:Int} (hM:0≤M):∀ {l:List Power},(∀ q,q∈l→q.N≤M)→∀ v,zd7 l v≤M
 | [],_,v=>by simpa[zd7] using hM
 | q::l,h,v=>by
  simp only[zd7]
  split
  ·exact h q (List.mem_cons_self ..)
  ·exact zaeg hM (fun q hq=>h q (List.mem_cons_of_mem _ hq)) v
theorem zaeh {M:Int}:∀ {d:List Power} {v n:Int},n≤M→(∀ q,q∈d→q.N≤M)→z9c d v n≤M
 | [],v,n,hn,_=>hn
 | q::d,v,n,hn,h=>by
  show z9c d v (if q.V=v then q.N else n)≤M
  refine zaeh ?_ (fun q hq=>h q (List.mem_cons_of_mem _ hq))
  split
  ·exact h q (List.mem_cons_self ..)
  ·exact hn
theorem zam9 {a d:List Power} (ha:z6 1 (-1) a=true) (hd:z6 0 (-1) d=true):z6 1 (-1) (zyw a d)=true :=
 zamv fun v=>zaeh (zaeg (by omega) (fun q hq=>(zn2 (by omega) ha (by omega) q hq).2.2.2) _) (fun q hq=>(zn2 (by omega) hd (by omega) q hq).2.2.2)
structure zaf3 (c:zb):Prop where
 set:z6 1 (-1) c.Set=true
 ripes:c.Ripes.all zkx=true
 id0:0≤c.Id
 id1:c.Id≤1099511627776
theorem zajp {now:Int} (hn:0≤now∧now≤1099511627776) {c:zb} (h:zaf3 c) {p:Packet} (hp:znf p=true):zaf3 (zrw now c p):=by
 rw[z1i]
 obtain ⟨g1,g2,_⟩:=z3j (l:=[p]) (by simp[hp]) p (by simp)
 have f:=zn3 g1
 refine ⟨zam9 h.set f.2.2.2.2.2.2.2.2.1,?_,by show 0≤p.Id;omega,f.2.2.2.1⟩
 show (c.Ripes++[(⟨p.Id,i64.wrap (now+15)⟩:Ripe)]).all zkx=true
 rw[List.all_append,h.ripes]
 have:zkx (⟨p.Id,i64.wrap (now+15)⟩:Ripe)=true:=by
  unfold zkx
  simp only[yy7,decide_eq_true_eq]
  rw[zm (by omega) (by omega)]
  exact ⟨⟨f.2.2.1,f.2.2.2.1⟩,by omega⟩
 simp[this]
theorem z5y {now:Int} (hn:0≤now∧now≤1099511627776):∀ {l:List Packet} {c:zb},zaf3 c→l.all znf=true→zaf3 (l.foldl (zrw now) c)
 | [],_,h,_=>h
 | p::l,c,h,hl=>by
  rw[List.all_cons,yy7] at hl
  exact z5y (c:=zrw now c p) hn (zajp hn h hl.1) hl.2
def matP (r:Ripe):Packet:=⟨2,r.Id,0,0,[],[]⟩
def matT (r:Ripe):ByteArray:=txt (zvl (matP r))
theorem zaad {r:Ripe} (h:zkx r=true):zef (matP r)=0:=by
 unfold zkx at h
 simp only[yy7,decide_eq_true_eq] at h
 exact zai5 h.1.1 h.1.2
theorem z3v {now:Int} (hn:0≤now∧now≤1099511627776):∀ (rs:List Ripe) (c:zb),c.Ripes=rs→zep c.Out→rs.all zkx=true →
  ∃ k,k≤rs.length∧zp3 now rs c={ c with Ripes:=rs.drop k,Out:={ c.Out with Said:=c.Out.Said++(rs.take k).map matT,Due:=c.Out.Due++List.replicate k (now+40) } } ∧
   (∀ r,r∈rs.take k→r.Due≤now)∧(k=rs.length∨(∃ r,rs[k]?=some r∧now < r.Due)∨c.Out.Closed=true∨400≤c.Out.Said.length+k)∧c.Out.Said.length+k≤400
 | [],c,hr,hg,_=>⟨0,Nat.le_refl _,by
   show c={ c with Ripes:=[],Out:={ c.Out with Said:=c.Out.Said++[],Due:=c.Out.Due++[] } }
   rw[List.append_nil,List.append_nil,← hr],by simp,.inl rfl,by have:c.Out.Said.length≤400:=hg.2.1;omega⟩
 | r::rs,c,hr,hg,ha=>by
  have h400:c.Out.Said.length≤400:=hg.2.1
  rw[List.all_cons,yy7] at ha
  have hstop:(r.Due≤now→c.Out.Closed=true∨400≤c.Out.Said.length)→zp3 now (r::rs) c=c→∃ k,k≤(r::rs).length∧zp3 now (r::rs) c={ c with Ripes:=(r::rs).drop k,Out:={ c.Out with Said:=c.Out.Said++((r::rs).take k).map matT,Due:=c.Out.Due++List.replicate k (now+40) } } ∧
    (∀ q,q∈(r::rs).take k→q.Due≤now)∧(k=(r::rs).length∨(∃ q,(r::rs)[k]?=some q∧now < q.Due)∨c.Out.Closed=true∨400≤c.Out.Said.length+k)∧c.Out.Said.length+k≤400:=by
   intro h1 h2
   refine ⟨0,Nat.zero_le _,by rw[h2];simp[← hr],by simp,?_,by omega⟩
   by_cases hd:r.Due≤now
   ·rcases h1 hd with k | k
    ·exact .inr (.inr (.inl k))
    ·exact .inr (.inr (.inr (by omega)))
   ·exact .inr (.inl ⟨r,rfl,by omega⟩)
  by_cases hd:r.Due≤now
  ·by_cases hc:c.Out.Closed=true∨400≤c.Out.Said.length
   ·refine hstop (fun _=>hc) ?_
    have e0:(ztf ⟨2,r.Id,0,0,[],[]⟩ now c).1≠0:=by
     intro e
     obtain ⟨_,k,_⟩:=zai4 e
     obtain ⟨_,_,k1,k2,_⟩:=zab6 k
     rcases hc with hc | hc
     ·rw[hc] at k1;cases k1
     ·omega
    unfold zp3
    rw[if_pos hd,if_pos e0]
   ·have hc1:c.Out.Closed=false:=Bool.eq_false_iff.2 (fun h=>hc (.inl h))
    have hc2:c.Out.Said.length < 400:=by have:¬ 400≤c.Out.Said.length:=fun h=>hc (.inr h);omega
    have hw:i64.wrap (now+40)=now+40:=zm (by omega) (by omega)
    have hs:=zams (p:=matP r) (now:=now) (c:=c) (zaad ha.1) hg (by rw[hw];omega) hc1 hc2
    rw[hw] at hs
    obtain ⟨c',hc'⟩:∃ c':zb,c'={ c with Ripes:=rs,Out:={ c.Out with Said:=c.Out.Said++[matT r],Due:=c.Out.Due++[now+40] } }:=⟨_,rfl⟩
    have hstep:zp3 now (r::rs) c=zp3 now rs c':=by
     have hs':ztf ⟨2,r.Id,0,0,[],[]⟩ now c=_:=hs
     rw[zp3,if_pos hd,hs',if_neg (by simp),hc']
     rfl
    have hg':zep c'.Out:=by rw[hc'];exact z5s hg (by omega) hc2
    obtain ⟨k,k1,k2,k3,k4,k5⟩:=z3v hn rs c' (by rw[hc']) hg' ha.2
    have l1:c'.Out.Said.length=c.Out.Said.length+1:=by rw[hc'];simp
    refine ⟨k+1,by simp only[List.length_cons];omega,?_,?_,?_,by omega⟩
    ·rw[hstep,k2,hc']
     simp only[List.drop_succ_cons,List.take_succ_cons,List.map_cons,List.append_assoc,List.singleton_append,List.replicate_succ]
    ·intro q hq
     rw[List.take_succ_cons] at hq
     rcases List.mem_cons.1 hq with rfl | hq
     ·exact hd
     ·exact k3 q hq
    ·rcases k4 with k4 | k4 | k4 | k4
     ·exact .inl (by simp only[List.length_cons];omega)
     ·exact .inr (.inl (by simpa using k4))
     ·exact .inr (.inr (.inl (by rw[hc'] at k4;exact k4)))
     ·exact .inr (.inr (.inr (by omega)))
  ·exact hstop (fun h=>absurd h hd) (by unfold zp3;rw[if_neg hd])
theorem zaf4 {l:zcd} (h:zep l) {t:List ByteArray} {n u:Int} (hu:0≤u) (hl:l.Said.length+t.length≤400):zep { l with Said:=l.Said++t,Due:=l.Due++List.replicate t.length u }:=by
 obtain ⟨g1,g2,g3,g4,g5⟩:=h
 refine ⟨by simp[g1],by simp only[yy6];omega,g3,by simp only[yy6];omega,?_⟩
 simp only[List.any_append,g5,Bool.false_or]
 rw[List.any_eq_false]
 intro x hx
 rw[List.eq_of_mem_replicate hx]
 simp only[decide_eq_true_eq];omega
theorem zaf5 {now:Int} {c:zb} (hg:zks c=true) (ho:c.On=true) (ht:c.Time≤now∧now≤1099511627776) (hh:c.Height+1 < 1099511627776) :
  (z73 now c).2=0∧∃ m k,m=c.Pending.foldl (zrw now) { c with Height:=c.Height+1,Time:=now }∧zaf3 m∧m.Ripes.length=c.Ripes.length+c.Pending.length∧k≤m.Ripes.length ∧
   (z73 now c).1={ m with Pending:=[],Ripes:=m.Ripes.drop k,Out:={ c.Out with Said:=c.Out.Said++(m.Ripes.take k).map matT,Due:=c.Out.Due++List.replicate k (now+40) } } ∧
   m.On=c.On∧m.Gone=c.Gone∧m.Height=c.Height+1∧m.Time=now∧m.Out=c.Out∧(∀ r,r∈m.Ripes.take k→r.Due≤now) ∧
   (k=m.Ripes.length∨(∃ r,m.Ripes[k]?=some r∧now < r.Due)∨c.Out.Closed=true∨400≤c.Out.Said.length+k)∧c.Out.Said.length+k≤400∧zks (z73 now c).1=true:=by
 obtain ⟨g1,g2,g3,g4,g5⟩:=zc3 hg
 have hw:i64.wrap (c.Height+1)=c.Height+1:=zm (by have:=g1.2;omega) (by have:=g1.2;omega)
 have hn0:0≤now:=by have:=g1.2.2.2.1;omega
 have he:=zamt (now:=now) hg ho ht.1 ht.2
 rw[hw] at he
 obtain ⟨m,hm⟩:∃ m,m=c.Pending.foldl (zrw now) { c with Height:=c.Height+1,Time:=now }:=⟨_,rfl⟩
 rw[← hm] at he
 have hpm:zaf3 m:=by rw[hm];exact z5y ⟨hn0,ht.2⟩ ⟨g3,g4,g1.2.2.2.2.2.1,g1.2.2.2.2.2.2⟩ g5
 obtain ⟨f1,f2,f3,f4,f5,f6⟩:=zv6 (now:=now) c.Pending { c with Height:=c.Height+1,Time:=now }
 rw[← hm] at f1 f2 f3 f4 f5 f6
 obtain ⟨k,k1,k2,k3,k4,k5⟩:=z3v (now:=now) ⟨hn0,ht.2⟩ m.Ripes { m with Pending:=[] } rfl (by show zep m.Out;rw[f2];exact g2) hpm.ripes
 replace f2:m.Out=c.Out:=f2
 simp only[f2] at k4 k5
 have hfin:(z73 now c).1={ m with Pending:=[],Ripes:=m.Ripes.drop k,Out:={ c.Out with Said:=c.Out.Said++(m.Ripes.take k).map matT,Due:=c.Out.Due++List.replicate k (now+40) } }:=by
  rw[he]
  show zp3 now m.Ripes { m with Pending:=[] }=_
  rw[k2]
  simp only[f2]
 refine ⟨by rw[he],m,k,hm,hpm,f1,k1,hfin,f3,f4,f5,f6,f2,k3,k4,k5,?_⟩
 rw[hfin]
 have hl:((m.Ripes.take k).map matT).length=k:=by rw[List.length_map,List.length_take];omega
 refine zp4 ⟨by show (m.On&&m.Gone)=false;rw[f3,f4];exact g1.1,by show 0≤m.Height;rw[f5];show 0≤c.Height+1;have:=g1.2;omega,?_,by show 0≤m.Time;rw[f6];exact hn0,by show m.Time≤_;rw[f6];exact ht.2,hpm.id0,hpm.id1⟩ ?_ hpm.set ?_ rfl
 ·show m.Height < _;rw[f5];show c.Height+1 < _
  exact hh
 ·have:=zaf4 (n:=0) g2 (t:=(m.Ripes.take k).map matT) (u:=now+40) (by omega) (by rw[hl];exact k5)
  rw[hl] at this
  exact this
 ·show (m.Ripes.drop k).all zkx=true
  rw[List.all_eq_true]
  intro r hr
  exact List.all_eq_true.1 hpm.ripes r (List.mem_of_mem_drop hr)
theorem z3w {w w':Wld} (h:OkW w) (hd:w.deeds < 600) (e1:w'.deeds=w.deeds+1) (e2:w'.clock=w.clock) (p:GoodX w'.p) (ph:w'.p.Height≤w.deeds+1) (pt:w'.p.Time≤w.clock) (pq:((w'.p.Queue.length:Nat):Int)≤w.deeds+1)
  {i:Int} (ci:ConsW w' i) (cj:∀ j:Int,0≤j∧j < 2→j≠i→zc w'.consumers j=zc w.consumers j∧SameL w'.p w.p j):OkW w':=by
 have d0:=h.d0
 refine ⟨by omega,by omega,by rw[e2];exact h.t0,by rw[e2];exact h.t1,p,by omega,by omega,by omega,fun j hj=>?_⟩
 by_cases e:j=i
 ·rw[e];exact ci
 ·obtain ⟨c1,c2⟩:=cj j hj e
  exact (h.c j hj).more c1 c2 (by omega) (by omega)
theorem z71 {w w':Wld} (h:OkW w) (hd:w.deeds < 600) (e1:w'.deeds=w.deeds+1) (e2:w'.clock=w.clock) (e3:w'.p=w.p) {i:Int} (hi:0≤i∧i < 2) {c:zb} (hc:w'.consumers=zny w.consumers i c)
  (good:zks c=true) (height:c.Height≤w.deeds+1) (time:c.Time≤w.clock) (size:((c.Pending.length+c.Ripes.length:Nat):Int)≤w.deeds+1) (on:c.On=(zc w.consumers i).On) (gone:c.Gone=(zc w.consumers i).Gone)
  (said:∀ s,s∈c.Out.Said→PkB s) (ho:(zc w.consumers i).On=true):OkW w':=by
 have hw:=h.c i hi
 have hci:zc w'.consumers i=c:=by rw[hc,zlu hi]
 refine z3w (i:=i) h hd e1 e2 (by rw[e3];exact h.p) (by rw[e3];have:=h.ph;omega) (by rw[e3];exact h.pt) (by rw[e3];have:=h.pq;omega) ?_ fun j hj hji=>⟨by rw[hc,zjv hi hj hji],by rw[e3];exact .refl _ _⟩
 have on':w.p.Links.On.get i=true:=by rw[← hw.on];exact ho
 refine ⟨by rw[hci];exact good,by rw[hci,e1];exact height,by rw[hci,e2];exact time,by rw[hci,e1];exact size,by rw[hci,e3,on];exact hw.on,by rw[hci,e3,gone];exact hw.gone,by rw[e3];exact hw.told,by rw[hci];exact said,fun k=>?_⟩
 rw[e3,on'] at k;cases k
theorem zajq {a b:ByteArray} (h:a.toList=b.toList):a=b:=by
 rw[ByteArray.toList_eq,ByteArray.toList_eq] at h
 obtain ⟨⟨a⟩⟩:=a
 obtain ⟨⟨b⟩⟩:=b
 simp only at h
 rw[h]
theorem zaru {r:Ripe} (h:zkx r=true):PkB (matT r):=⟨matP r,zaad h,by unfold matP;simp,rfl⟩
theorem zaci {w:Wld} (h:OkW w) (hd:w.deeds < 600) {i:Int} (hi:0≤i∧i < 2) (ho:(zc w.consumers i).On=true):OkW (z1m (zd8 w) i).1:=by
 have hc:=h.c i hi
 have h1:=h.t1
 have hh:=hc.height
 obtain ⟨e0,m,k,hm,hpm,hl,hk,hf,f1,f2,f3,f4,f5,f6,f7,f8,hg⟩:=zaf5 hc.good ho ⟨hc.time,by omega⟩ (by omega)
 unfold z1m
 rw[if_neg (by show ¬ (z73 w.clock (zc w.consumers i)).2≠0;rw[e0];simp)]
 refine z71 h hd rfl rfl rfl hi (c:=(z73 w.clock (zc w.consumers i)).1) rfl hg ?_ ?_ ?_ ?_ ?_ ?_ ho
 all_goals rw[hf]
 ·show m.Height≤_;rw[f3];omega
 ·show m.Time≤_;rw[f4];omega
 ·have:=hc.size
  simp only[List.length_nil,List.length_drop]
  omega
 ·exact f1
 ·exact f2
 ·intro s hs
  rcases List.mem_append.1 hs with hs | hs
  ·exact hc.said s hs
  ·obtain ⟨r,hr,rfl⟩:=List.mem_map.1 hs
   exact zaru (List.all_eq_true.1 hpm.ripes r (List.mem_of_mem_take hr))
theorem zajr {c:zb} (hg:zks c=true) {q:Packet} (hq:q.Kind≠1) {now:Int} (h:(ztf q now c).1=0) :
  zef q=0∧0≤i64.wrap (now+40)∧c.Out.Closed=false∧c.Out.Said.length < 400∧(ztf q now c).2={ c with Out:={ c.Out with Said:=c.Out.Said++[txt (zvl q)],Due:=c.Out.Due++[i64.wrap (now+40)] } }∧zks (ztf q now c).2=true:=by
 obtain ⟨k1,k2,k3⟩:=zai4 h
 obtain ⟨l1,l2,l3,l4,_⟩:=zab6 k2
 obtain ⟨g1,g2,g3,g4,g5⟩:=zc3 hg
 refine ⟨k1,l2,l3,l4,by rw[k3],?_⟩
 rw[k3]
 exact zp4 g1 (z5s l1 l2 l4) g3 g4 g5
theorem zajs {w w':Wld} (h:OkW w) (hd:w.deeds < 600) (e1:w'.deeds=w.deeds+1) (e2:w'.clock=w.clock) (e3:w'.p=w.p) {i:Int} (hi:0≤i∧i < 2) (ho:(zc w.consumers i).On=true) {q:Packet} (hq:q.Kind≠1) (hs:(ztf q w.clock (zc w.consumers i)).1=0) {f:A6 Bool}
  (hc:w'.consumers=zny w.consumers i { (ztf q w.clock (zc w.consumers i)).2 with Flags:=f }):OkW w':=by
 have hw:=h.c i hi
 obtain ⟨s1,s2,s3,s4,s5,s6⟩:=zajr hw.good hq hs
 obtain ⟨g1,g2,g3,g4,g5⟩:=zc3 s6
 have hz:=hw.size;have hh:=hw.height;have ht:=hw.time
 refine z71 h hd e1 e2 e3 hi hc (zp4 g1 g2 g3 g4 g5) ?_ ?_ ?_ ?_ ?_ ?_ ho
 all_goals rw[s5]
 ·show (zc w.consumers i).Height≤_;omega
 ·exact ht
 ·show (((zc w.consumers i).Pending.length+(zc w.consumers i).Ripes.length:Nat):Int)≤_;omega
 ·intro s hs
  rcases List.mem_append.1 hs with hs | hs
  ·exact hw.said s hs
  ·rw[List.mem_singleton.1 hs];exact ⟨q,s1,hq,rfl⟩
theorem zaei {w:Wld} (h:OkW w) (hd:w.deeds < 600) {i:Int} {r:zb×Int} (hr:r.2=0→OkW { zd8 w with consumers:=zny w.consumers i r.1 }):OkW (putW (zd8 w) i r).1:=by
 unfold putW
 by_cases e:r.2=0
 ·rw[if_neg (by simpa using e)];exact hr e
 ·rw[if_pos e];exact zl5 h hd
theorem zanb {w:Wld} (h:OkW w) (hd:w.deeds < 600) {i:Int} (hi:0≤i∧i < 2) (ho:(zc w.consumers i).On=true) (v:Int):OkW (putW (zd8 w) i (z9w (zc w.consumers i) v w.clock)).1:=by
 refine zaei h hd fun h0=>?_
 obtain ⟨_,_,_,_,_,_,_,hs,he⟩:=zamu h0
 rw[he]
 exact zajs h hd rfl rfl rfl hi ho (by simp) hs rfl
theorem zaf6 {w:Wld} (h:OkW w) (hd:w.deeds < 600) {i:Int} (hi:0≤i∧i < 2) (ho:(zc w.consumers i).On=true) (v n:Int):OkW (putW (zd8 w) i (zz2 (zc w.consumers i) v n w.clock)).1:=by
 refine zaei h hd fun h0=>?_
 unfold zz2 at h0 ⊢
 by_cases h1:zks (zc w.consumers i)=false∨w.clock < 0∨1099511627776 < w.clock
 ·rw[if_pos h1] at h0;cases h0
 rw[if_neg h1] at h0 ⊢
 by_cases h2:(zc w.consumers i).On=false∨v < 0∨5 < v
 ·rw[if_pos h2] at h0;cases h0
 rw[if_neg h2] at h0 ⊢
 by_cases h3:n < 1∨(zc w.consumers i).Id < n
 ·rw[if_pos h3] at h0;cases h0
 rw[if_neg h3] at h0 ⊢
 exact zajs h hd rfl rfl rfl hi ho (q:=⟨4,n,v,maxC (zc w.consumers i) v,[],[]⟩) (by simp) h0 (f:=(ztf ⟨4,n,v,maxC (zc w.consumers i) v,[],[]⟩ w.clock (zc w.consumers i)).2.Flags) rfl
theorem zaf7 {p:za} (h:GoodX p) {i:Int} (hi:0≤i∧i < 2) {l:zcd} (hl:zep l):GoodX { p with Links:=z3s p.Links i l }:=by
 have hlk:∀ j:Int,0≤j∧j < 2→LkX { p with Links:=z3s p.Links i l } j:=by
  intro j hj
  obtain ⟨a1,a2,a3,a4,a5,a6⟩:=h.lk hj
  refine ⟨a1,a2,a3,a4,?_,a6⟩
  rw[zxk,zz7 hi hj]
  split
  ·exact hl
  ·exact a5
 exact ⟨h.1,h.2.1,h.2.2.1,okLk_iff.2 (hlk 0 (by omega)),okLk_iff.2 (hlk 1 (by omega)),h.2.2.2.2.2⟩
theorem zaf8 {p:za} (h:GoodX p) (i:Int) (s:Head):GoodX { p with Links:=zacf p.Links i s }:=by
 have hlk:∀ j:Int,0≤j∧j < 2→LkX { p with Links:=zacf p.Links i s } j:=by
  intro j hj
  obtain ⟨a1,a2,a3,a4,a5,a6⟩:=h.lk hj
  exact ⟨a1,a2,a3,a4,a5,a6⟩
 exact ⟨h.1,h.2.1,h.2.2.1,okLk_iff.2 (hlk 0 (by omega)),okLk_iff.2 (hlk 1 (by omega)),h.2.2.2.2.2⟩
theorem zajt {w:Wld} (h:OkW w) (hd:w.deeds < 600) {i:Int} (hi:0≤i∧i < 2) (ho:(zc w.consumers i).On=true) (back:Bool):OkW (zaee (zd8 w) i back).1:=by
 unfold zaee
 have hw:=h.c i hi
 cases back with
 | true =>
  rw[if_pos rfl]
  refine z70 (zl5 h hd) (zaf8 h.p i _) rfl rfl rfl fun j hj=>⟨rfl,rfl,?_⟩
  rfl
 | false =>
  rw[if_neg (by simp)]
  obtain ⟨g1,g2,g3,g4,g5⟩:=zc3 hw.good
  have hz:=hw.size;have hh:=hw.height
  exact z71 h hd rfl rfl rfl hi rfl (zp4 g1 g2 g3 g4 g5) (by show (zc w.consumers i).Height≤_;omega) hw.time (by show (((zc w.consumers i).Pending.length+(zc w.consumers i).Ripes.length:Nat):Int)≤_;omega) rfl rfl hw.said ho
theorem zaf9 {w:Wld} {d:Deed} (h:(zpf w d).2=0):zep (zgy w d.C d.Back)∧(zgy w d.C d.Back).Closed=false∧(zgy w d.C d.Back).Got+1≤((zgy w d.C d.Back).Said.length:Int)∧(zgy w d.C d.Back).Got+1≤zaab w d.C d.Back ∧
  zmp (zgy w d.C d.Back) d.Forged=(zgy w d.C d.Back).Said.getD (zgy w d.C d.Back).Got.toNat .empty∧w.clock < (zgy w d.C d.Back).Due.getD (zgy w d.C d.Back).Got.toNat 0 ∧
  (zpf w d).1={ zgy w d.C d.Back with Got:=(zgy w d.C d.Back).Got+1 }∧zep (zpf w d).1:=by
 have hs:(zgy w d.C d.Back).Got+1≤zaab w d.C d.Back:=by
  unfold zpf znv at h
  by_cases h1:¬ zep (zgy w d.C d.Back)
  ·rw[if_pos h1] at h;cases h
  rw[if_neg h1] at h
  have hl:=Classical.not_not.1 h1
  have e4:(zgy w d.C d.Back).Said.length≤400:=hl.2.1
  have hw:i64.wrap ((zgy w d.C d.Back).Got+1)=(zgy w d.C d.Back).Got+1:=zm (by have:=hl.2.2.1;omega) (by have:=hl.2.2.2.1;omega)
  rw[hw] at h
  by_cases h2:(zgy w d.C d.Back).Closed=true
  ·rw[if_pos h2] at h;cases h
  rw[if_neg h2,if_neg (by simp)] at h
  by_cases h3:zaab w d.C d.Back < (zgy w d.C d.Back).Got+1∨((zgy w d.C d.Back).Said.length:Int) < (zgy w d.C d.Back).Got+1∨((zgy w d.C d.Back).Said.getD (zgy w d.C d.Back).Got.toNat .empty).toList≠(zmp (zgy w d.C d.Back) d.Forged).toList
  ·rw[if_pos h3] at h;cases h
  ·simp only[not_or] at h3;omega
 obtain ⟨h1,h2,h3,h4,h5,h6,h7⟩:=zae9 h
 have e4:(zgy w d.C d.Back).Said.length≤400:=h1.2.1
 have hw:i64.wrap ((zgy w d.C d.Back).Got+1)=(zgy w d.C d.Back).Got+1:=zm (by have:=h1.2.2.1;omega) (by have:=h1.2.2.2.1;omega)
 rw[hw] at h4
 have he:(zpf w d).1={ zgy w d.C d.Back with Got:=(zgy w d.C d.Back).Got+1 }:=by
  unfold zpf
  rw[h7,hw]
 refine ⟨h1,Bool.eq_false_iff.2 h2,h4,hs,?_,h6,he,?_⟩
 ·exact (zajq h5).symm
 ·rw[he]
  obtain ⟨g1,g2,g3,g4,g5⟩:=h1
  exact ⟨g1,g2,by show 0≤(zgy w d.C d.Back).Got+1;omega,h4,g5⟩
theorem zacj {c:zb} (hg:zks c=true) {s:List UInt8} (h:(zy2 c s).2=0):c.On=true∧zef (za7 s).1=0∧(za7 s).1.Kind=1∧(za7 s).2=0∧(zy2 c s).1={ c with Pending:=c.Pending++[(za7 s).1] }∧zks (zy2 c s).1=true:=by
 unfold zy2 at h ⊢
 rw[if_neg (by rw[hg];simp)] at h ⊢
 by_cases h1:c.On=false
 ·rw[if_pos h1] at h;cases h
 rw[if_neg h1] at h ⊢
 by_cases h2:(za7 s).2=0
 ·rw[if_neg (by simpa using h2)] at h ⊢
  by_cases h3:(za7 s).1.Kind=1
  ·rw[if_neg (by simpa using h3)]
   have gp:=zaec h2
   refine ⟨by simpa using h1,gp,h3,h2,rfl,?_⟩
   obtain ⟨g1,g2,g3,g4,g5⟩:=zc3 hg
   refine zp4 g1 g2 g3 g4 ?_
   show (c.Pending++[(za7 s).1]).all znf=true
   rw[List.all_append,g5]
   simp[znf,gp,h3]
  ·rw[if_pos h3] at h;cases h
 ·rw[if_pos h2] at h;exact absurd h h2
theorem zaae {p:za} (hg:zay p=true) {i:Int} {s:List UInt8} (h:(zrx p i s).2=0):(0≤i∧i < 2)∧p.Links.On.get i=true∧zef (za7 s).1=0∧(za7 s).1.Kind≠1∧(za7 s).2=0∧(zrx p i s).1={ p with Queue:=p.Queue++[⟨i,(za7 s).1⟩] }∧GoodX (zrx p i s).1:=by
 unfold zrx at h ⊢
 rw[if_neg (by rw[hg];simp)] at h ⊢
 by_cases h1:(0≤i∧i < 2)∧p.Links.On.get i=true
 ·rw[if_pos h1] at h ⊢
  by_cases h2:(za7 s).2=0
  ·rw[if_neg (by simpa using h2)] at h ⊢
   by_cases h3:(za7 s).1.Kind=1
   ·rw[if_pos h3] at h;cases h
   ·rw[if_neg h3]
    have gp:=zaec h2
    have hx:=(goodPr_iff.1 hg).1
    refine ⟨h1.1,h1.2,gp,h3,h2,rfl,hx.1,hx.2.1,hx.2.2.1,hx.2.2.2.1,hx.2.2.2.2.1,?_⟩
    show (p.Queue++[_]).all _=true
    rw[List.all_append,yy7]
    refine ⟨hx.2.2.2.2.2,List.all_eq_true.2 fun b hb=>?_⟩
    rw[List.mem_singleton.1 hb]
    exact ask_iff.2 ⟨h1.1,h1.2,gp,h3⟩
  ·rw[if_pos h2] at h;exact absurd h h2
 ·rw[if_neg h1] at h;cases h
theorem zack {w:Wld} (h:OkW w) (hd:w.deeds < 600) {d:Deed} (hi:0≤d.C∧d.C < 2) (ho:(zc w.consumers d.C).On=true):OkW (zva (zd8 w) d).1:=by
 have hw:=h.c d.C hi
 unfold zva
 by_cases h0:(zpf w d).2=0
 ·rw[if_neg (by show ¬ (zpf w d).2≠0;simpa using h0)]
  obtain ⟨f1,f2,f3,f4,f5,f6,f7,f8⟩:=zaf9 h0
  cases hb:d.Back with
  | true =>
   rw[if_pos rfl]
   rw[hb] at f5
   have e0:zgy w d.C true=(zc w.consumers d.C).Out:=rfl
   by_cases h1:(zrx w.p d.C (zmp (zgy w d.C true) d.Forged).data.toList).2=0
   ·rw[if_neg (by show ¬ (zrx w.p d.C (zmp (zgy w d.C true) d.Forged).data.toList).2≠0;simpa using h1)]
    obtain ⟨q1,q2,q3,q4,q5,q6,q7⟩:=zaae h.pr h1
    obtain ⟨g1,g2,g3,g4,g5⟩:=zc3 hw.good
    have hz:=hw.size;have hh:=hw.height;have hp:=h.ph;have hq:=h.pq
    have hr:(zpf w d).1={ (zc w.consumers d.C).Out with Got:=(zc w.consumers d.C).Out.Got+1 }:=by rw[f7,hb];rfl
    have e6:(zrx (zd8 w).p d.C (zmp (zgy (zd8 w) d.C true) d.Forged).data.toList).1={ w.p with Queue:=w.p.Queue++[⟨d.C,(za7 (zmp (zgy w d.C true) d.Forged).data.toList).1⟩] }:=q6
    simp only[e6]
    refine z3w (i:=d.C) h hd rfl rfl (by rw[← q6];exact q7) (by show w.p.Height≤_;omega) h.pt (by show (((w.p.Queue++[_]).length:Nat):Int)≤_;rw[yy6,yy5];omega) ?_ fun j hj hji=>⟨zjv hi hj hji _,rfl,rfl,rfl⟩
    have hci:zc (zny (zd8 w).consumers d.C { zc (zd8 w).consumers d.C with Out:=(zpf (zd8 w) d).1 }) d.C={ zc w.consumers d.C with Out:=(zpf w d).1 }:=zlu hi _
    refine ⟨?_,?_,?_,?_,?_,?_,hw.told,?_,fun k=>?_⟩
    ·rw[hci];exact zp4 g1 f8 g3 g4 g5
    ·rw[hci];show (zc w.consumers d.C).Height≤w.deeds+1;omega
    ·rw[hci];exact hw.time
    ·rw[hci];show (((zc w.consumers d.C).Pending.length+(zc w.consumers d.C).Ripes.length:Nat):Int)≤w.deeds+1;omega
    ·rw[hci];exact hw.on
    ·rw[hci];exact hw.gone
    ·rw[hci];show ∀ s,s∈(zpf w d).1.Said→PkB s;rw[hr];exact hw.said
    ·have k':w.p.Links.On.get d.C=false:=k
     rw[q2] at k';cases k'
   ·rw[if_pos (by exact h1)];exact zl5 h hd
  | false =>
   rw[if_neg (by simp)]
   rw[hb] at f5
   by_cases h1:(zy2 (zc w.consumers d.C) (zmp (zgy w d.C false) d.Forged).data.toList).2=0
   ·rw[if_neg (by show ¬ (zy2 (zc w.consumers d.C) (zmp (zgy w d.C false) d.Forged).data.toList).2≠0;simpa using h1)]
    obtain ⟨q1,q2,q3,q4,q5,q6⟩:=zacj hw.good h1
    have hz:=hw.size;have hh:=hw.height;have hp:=h.ph;have hq:=h.pq
    have hr:(zpf w d).1={ (zh w.p.Links d.C).Out with Got:=(zh w.p.Links d.C).Out.Got+1 }:=by rw[f7,hb];rfl
    have on':w.p.Links.On.get d.C=true:=by rw[← hw.on];exact ho
    refine z3w (i:=d.C) h hd rfl rfl (zaf7 h.p hi f8) (by show w.p.Height≤_;omega) h.pt (by show ((w.p.Queue.length:Nat):Int)≤_;omega) ?_ fun j hj hji=>⟨zjv hi hj hji _,rfl,rfl,?_⟩
    ·have hci:zc (zny (zd8 w).consumers d.C (zy2 (zc (zd8 w).consumers d.C) (zmp (zgy (zd8 w) d.C false) d.Forged).data.toList).1) d.C=(zy2 (zc w.consumers d.C) (zmp (zgy w d.C false) d.Forged).data.toList).1:=zlu hi _
     refine ⟨?_,?_,?_,?_,?_,?_,?_,?_,fun k=>?_⟩
     ·rw[hci];exact q6
     ·rw[hci,q5];show (zc w.consumers d.C).Height≤w.deeds+1;omega
     ·rw[hci,q5];exact hw.time
     ·rw[hci,q5]
      show ((((zc w.consumers d.C).Pending++[_]).length+(zc w.consumers d.C).Ripes.length:Nat):Int)≤w.deeds+1
      rw[yy6,yy5];omega
     ·rw[hci,q5];exact hw.on
     ·rw[hci,q5];exact hw.gone
     ·show ∀ s,s∈(zh (z3s w.p.Links d.C (zpf w d).1) d.C).Out.Said→Pk1 s
      rw[zz7 hi hi,if_pos rfl,hr];exact hw.told
     ·rw[hci,q5];exact hw.said
     ·have k':w.p.Links.On.get d.C=false:=k
      rw[on'] at k';cases k'
    ·show (zh (z3s w.p.Links d.C (zpf w d).1) j).Out.Said=_
     rw[zz7 hi hj,if_neg hji]
   ·rw[if_pos (by exact h1)];exact zl5 h hd
 ·rw[if_pos (by exact h0)];exact zl5 h hd
theorem zacl {w:Wld} (h:OkW w) (hd:w.deeds < 600):OkW (zp5 (zd8 w)).1:=by
 have ht:zay w.p=true∧w.p.Time≤w.clock∧w.clock≤1099511627776:=⟨h.pr,h.pt,by have:=h.t1;omega⟩
 unfold zp5
 rw[if_neg (by show ¬ (zo9 w.p w.clock).2.2≠0;rw[zars ht];simp)]
 obtain ⟨r1,r2,r3,r4,r5,r6,r7,r8⟩:=zam3 ht
 obtain ⟨S,D,M,e,hS,hdn,hl,hm⟩:=z1l ht.1 w.clock
 have hg:=zam2 ht.1 ht.2
 have hp:=h.ph;have hq:=h.pq;have d0:=h.d0
 refine ⟨by show 0≤w.deeds+1;omega,by show w.deeds+1≤600;omega,h.t0,h.t1,hg,by show (zo9 w.p w.clock).1.Height≤w.deeds+1;rw[r1];omega,by show (zo9 w.p w.clock).1.Time≤w.clock;rw[r2];exact Int.le_refl _,by show (((zo9 w.p w.clock).1.Queue.length:Nat):Int)≤w.deeds+1;rw[r5];omega,fun i hi=>?_⟩
 obtain ⟨D',-,hD⟩:=zam4 ht hi
 have hw:=h.c i hi
 have hz:=hw.size;have hh:=hw.height
 have o1:(zo9 w.p w.clock).1.Links.On.get i=w.p.Links.On.get i:=by rw[r6]
 have o2:(zo9 w.p w.clock).1.Links.Gone.get i=w.p.Links.Gone.get i:=by rw[r7]
 refine ⟨hw.good,by show (zc w.consumers i).Height≤w.deeds+1;omega,hw.time,by show (((zc w.consumers i).Pending.length+(zc w.consumers i).Ripes.length:Nat):Int)≤w.deeds+1;omega,hw.on.trans o1.symm,hw.gone.trans o2.symm,?_,hw.said,?_⟩
 ·show ∀ s,s∈(zh (zo9 w.p w.clock).1.Links i).Out.Said→Pk1 s
  rw[← zxk]
  rcases hD with ⟨-,-,-,e4,-⟩ | ⟨-,-,-,-,-,-,-,e8,e9⟩
  ·rw[e4];exact hw.told
  ·rw[e9]
   intro s hs
   rcases List.mem_append.1 hs with hs | hs
   ·exact hw.told s hs
   ·rw[List.mem_singleton.1 hs];exact ⟨_,e8,rfl,rfl⟩
 ·intro k1 k2
  have k1':w.p.Links.On.get i=false:=o1.symm.trans k1
  obtain ⟨c1,c2⟩:=hw.fresh k1' (o2.symm.trans k2)
  refine ⟨c1,?_⟩
  show (zh (zo9 w.p w.clock).1.Links i).Out.Said=[]
  rw[← zxk]
  rcases hD with ⟨-,-,-,e4,-⟩ | ⟨-,-,-,e4,-⟩
  ·rw[e4];exact c2
  ·rw[k1'] at e4;cases e4
theorem zux {L:Links} {i j H:Int} {T:List Power} {f:Bool} (hi:0≤i∧i < 2) (hj:0≤j∧j < 2):zh (zhz L i H T f) j=if j=i then ⟨true,false,H,T,f,[],⟨[],[],0,false⟩,⟨0,0,0,0⟩⟩ else zh L j:=by
 unfold zh zhz
 simp only[zav _ _ hi hj]
 by_cases e:j=i
 ·simp only[if_pos e]
 ·simp only[if_neg e]
theorem z3x {p:za} {i:Int} (h:(zf0 p i).2=0):zay p=true∧(0≤i∧i < 2)∧p.Links.Gone.get i=false∧p.Links.On.get i=false∧1≤p.Height∧p.Set.length≠0∧(zf0 p i).1=zpa p i (p.Stake.Waits.map (zjt i p.Height)) (zxn p):=by
 unfold zf0 at h ⊢
 cases hg:zay p with
 | false=>rw[if_pos hg] at h;cases h
 | true =>
  rw[if_neg (by rw[hg];simp)] at h
  rw[if_neg (by simp)]
  by_cases hi:0≤i∧i < 2
  ·rw[if_pos hi] at h ⊢
   by_cases h1:p.Links.Gone.get i=true
   ·rw[if_pos h1] at h;cases h
   rw[if_neg h1] at h ⊢
   by_cases h2:p.Links.On.get i=true
   ·rw[if_pos h2] at h;cases h
   rw[if_neg h2] at h ⊢
   by_cases h3:p.Height < 1∨p.Set.length=0
   ·rw[if_pos h3] at h;cases h
   rw[if_neg h3]
   simp only[not_or] at h3
   exact ⟨rfl,hi,Bool.eq_false_iff.2 h1,Bool.eq_false_iff.2 h2,by omega,h3.2,rfl⟩
  ·rw[if_neg hi] at h;cases h
theorem zaga {p:za} (hx:GoodX p) {i:Int} (hi:0≤i∧i < 2) (ho:p.Links.On.get i=false):GoodX (zpa p i (p.Stake.Waits.map (zjt i p.Height)) (zxn p)):=by
 obtain ⟨b1,b2,b3,b4,b5,b6,b7⟩:=hx.1
 have hf:∀ w,(zjt i p.Height w).Number=w.Number∧(zjt i p.Height w).D=w.D∧(zjt i p.Height w).V=w.V∧(zjt i p.Height w).Amount=w.Amount∧(zjt i p.Height w).Height=w.Height∧(zjt i p.Height w).Due=w.Due:=by
  intro w;unfold zjt;split<;>exact ⟨rfl,rfl,rfl,rfl,rfl,rfl⟩
 have gs:GoodS { p.Stake with Waits:=p.Stake.Waits.map (zjt i p.Height) }:=by
  refine ⟨b1,⟨b2.1,b2.2.1,by show (p.Stake.Waits.map _).length≤60;rw[List.length_map];exact b2.2.2⟩,b3,zu6 (fun w hw=>⟨(hf w).1,(hf w).2.1,(hf w).2.2.1,by rw[(hf w).2.2.2.1];exact hw,(hf w).2.2.2.2.1,(hf w).2.2.2.2.2⟩) b4,b5,?_,b7⟩
  show zq6 (p.Stake.Waits.map _)=_
  rw[z7v (fun w=>(hf w).2.2.2.1)];exact b6
 have hlk:∀ j:Int,0≤j∧j < 2→LkX (zpa p i (p.Stake.Waits.map (zjt i p.Height)) (zxn p)) j:=by
  intro j hj
  obtain ⟨a1,a2,a3,a4,a5,a6⟩:=hx.lk hj
  have el:=zux (L:=p.Links) (H:=p.Height) (T:=p.Set) (f:=zxn p) hi hj
  by_cases e:j=i
  ·rw[if_pos e] at el
   have z:=hx.2.1.1
   exact ⟨by show ¬ ((zh (zhz p.Links i p.Height p.Set (zxn p)) j).On=true∧(zh (zhz p.Links i p.Height p.Set (zxn p)) j).Gone=true);rw[el];simp,by show 0≤(zh (zhz p.Links i p.Height p.Set (zxn p)) j).Base;rw[el];exact z,
    by show (zh (zhz p.Links i p.Height p.Set (zxn p)) j).Base≤p.Height;rw[el];exact Int.le_refl _,by show z6 1 (-1) (zh (zhz p.Links i p.Height p.Set (zxn p)) j).Told=true;rw[el];exact hx.2.2.1,
    by show zep (zh (zhz p.Links i p.Height p.Set (zxn p)) j).Out;rw[el];exact z3k,by show zas (-1) (zh (zhz p.Links i p.Height p.Set (zxn p)) j).Done=true;rw[el];rfl⟩
  ·rw[if_neg e] at el
   exact ⟨by show ¬ ((zh (zhz p.Links i p.Height p.Set (zxn p)) j).On=true∧(zh (zhz p.Links i p.Height p.Set (zxn p)) j).Gone=true);rw[el];exact a1,by show 0≤(zh (zhz p.Links i p.Height p.Set (zxn p)) j).Base;rw[el];exact a2,
    by show (zh (zhz p.Links i p.Height p.Set (zxn p)) j).Base≤p.Height;rw[el];exact a3,by show z6 1 (-1) (zh (zhz p.Links i p.Height p.Set (zxn p)) j).Told=true;rw[el];exact a4,
    by show zep (zh (zhz p.Links i p.Height p.Set (zxn p)) j).Out;rw[el];exact a5,by show zas (-1) (zh (zhz p.Links i p.Height p.Set (zxn p)) j).Done=true;rw[el];exact a6⟩
 refine ⟨gs,hx.2.1,hx.2.2.1,okLk_iff.2 (hlk 0 (by omega)),okLk_iff.2 (hlk 1 (by omega)),List.all_eq_true.2 fun b hb=>ask_iff.2 ?_⟩
 obtain ⟨q1,q2,q3,q4⟩:=hx.ask hb
 refine ⟨q1,?_,q3,q4⟩
 show (p.Links.On.set i true).get b.C=true
 rw[zav _ _ hi q1]
 split
 ·rfl
 ·exact q2
theorem zaju {w:Wld} (h:OkW w) (hd:w.deeds < 600) (i:Int):OkW (z5x (zd8 w) i).1:=by
 unfold z5x
 by_cases h0:(zf0 w.p i).2=0
 ·rw[if_neg (by show ¬ (zf0 w.p i).2≠0;simpa using h0)]
  obtain ⟨f1,hi,f3,f4,f5,f6,f7⟩:=z3x h0
  have hgb:=zaga h.p hi f4
  have hp:=h.ph;have hq:=h.pq;have d0:=h.d0;have d1:=h.d1
  have e6:(zf0 (zd8 w).p i).1=zpa w.p i (w.p.Stake.Waits.map (zjt i w.p.Height)) (zxn w.p):=f7
  simp only[e6]
  refine z3w (i:=i) h hd rfl rfl hgb (by show w.p.Height≤_;omega) h.pt (by show ((w.p.Queue.length:Nat):Int)≤_;omega) ?_ fun j hj hji=>⟨zjv hi hj hji _,.of ?_⟩
  ·have hci:zc (zny (zd8 w).consumers i (zs9 w.p.Set w.p.Height w.clock)) i=zs9 w.p.Set w.p.Height w.clock:=zlu hi _
   have el:=zux (L:=w.p.Links) (H:=w.p.Height) (T:=w.p.Set) (f:=zxn w.p) hi hi
   rw[if_pos rfl] at el
   have t0:=h.t0;have t1:=h.t1;have z:=h.p.2.1.1
   refine ⟨?_,?_,?_,?_,?_,?_,?_,?_,fun k=>?_⟩
   ·show zks (zc (zny (zd8 w).consumers i (zs9 w.p.Set w.p.Height w.clock)) i)=true
    rw[hci]
    exact zp4 ⟨rfl,by show (0:Int)≤0;omega,by show (0:Int) < _;omega,t0,by show w.clock≤_;omega,z,by show w.p.Height≤_;omega⟩ z3k h.p.2.2.1 rfl rfl
   ·show (zc (zny (zd8 w).consumers i (zs9 w.p.Set w.p.Height w.clock)) i).Height≤w.deeds+1
    rw[hci];show (0:Int)≤_;omega
   ·show (zc (zny (zd8 w).consumers i (zs9 w.p.Set w.p.Height w.clock)) i).Time≤w.clock
    rw[hci];exact Int.le_refl _
   ·show (((zc (zny (zd8 w).consumers i (zs9 w.p.Set w.p.Height w.clock)) i).Pending.length+(zc (zny (zd8 w).consumers i (zs9 w.p.Set w.p.Height w.clock)) i).Ripes.length:Nat):Int)≤w.deeds+1
    rw[hci];show ((0:Nat):Int)≤_;omega
   ·show (zc (zny (zd8 w).consumers i (zs9 w.p.Set w.p.Height w.clock)) i).On=(zh (zhz w.p.Links i w.p.Height w.p.Set (zxn w.p)) i).On
    rw[hci,el];rfl
   ·show (zc (zny (zd8 w).consumers i (zs9 w.p.Set w.p.Height w.clock)) i).Gone=(zh (zhz w.p.Links i w.p.Height w.p.Set (zxn w.p)) i).Gone
    rw[hci,el];rfl
   ·show ∀ s,s∈(zh (zhz w.p.Links i w.p.Height w.p.Set (zxn w.p)) i).Out.Said→Pk1 s
    rw[el];intro s hs;cases hs
   ·show ∀ s,s∈(zc (zny (zd8 w).consumers i (zs9 w.p.Set w.p.Height w.clock)) i).Out.Said→PkB s
    rw[hci];intro s hs;cases hs
   ·have k':(zh (zhz w.p.Links i w.p.Height w.p.Set (zxn w.p)) i).On=false:=k
    rw[el] at k';cases k'
  ·show zh (zhz w.p.Links i w.p.Height w.p.Set (zxn w.p)) j=_
   rw[zux hi hj,if_neg hji]
 ·rw[if_pos (by exact h0)];exact zl5 h hd
theorem zwb {L:Links} {i j:Int} (hi:0≤i∧i < 2) (hj:0≤j∧j < 2):zh (zu8 L i) j=if j=i then { zh L j with On:=false,Gone:=true,Fresh:=false,Done:=[],Out:={ (zh L j).Out with Closed:=true } } else zh L j:=by
 unfold zh zu8
 simp only[zav _ _ hi hj]
 by_cases e:j=i
 ·simp only[if_pos e]
 ·simp only[if_neg e]
theorem zajv {w:Wld} (h:OkW w) {i:Int} (hi:0≤i∧i < 2) (ho:(zc w.consumers i).On=true):zu9 w.p i=zzb w.p i∧zz3 (zc w.consumers i)={ zc w.consumers i with On:=false,Gone:=true,Out:={ (zc w.consumers i).Out with Closed:=true } }:=by
 have on':w.p.Links.On.get i=true:=by rw[← (h.c i hi).on];exact ho
 exact ⟨by unfold zu9;rw[if_pos ⟨h.pr,hi,on'⟩],by unfold zz3;rw[if_neg (by rw[ho];simp)]⟩
theorem zagb {w:Wld} (h:OkW w) (hd:w.deeds < 600) {d:Deed} (hi:0≤d.C∧d.C < 2) (ho:(zc w.consumers d.C).On=true):OkW (zz8 (zd8 w) d).1:=by
 unfold zz8
 by_cases h0:(zajo w d).2=0
 ·rw[if_neg (by show ¬ (zajo w d).2≠0;simpa using h0)]
  obtain ⟨f1,f2⟩:=zajv h hi ho
  have hw:=h.c d.C hi
  have e1:zu9 (zd8 w).p d.C=zzb w.p d.C:=f1
  have e2:zz3 (zc (zd8 w).consumers d.C)={ zc w.consumers d.C with On:=false,Gone:=true,Out:={ (zc w.consumers d.C).Out with Closed:=true } }:=f2
  simp only[e1,e2]
  obtain ⟨g1,g2,g3,g4,g5⟩:=zc3 hw.good
  have hz:=hw.size;have hh:=hw.height;have hp:=h.ph;have hq:=h.pq
  have hqf:(w.p.Queue.filter (z1k d.C)).length≤w.p.Queue.length:=List.length_filter_le _ _
  have el:=zwb (L:=w.p.Links) hi hi
  rw[if_pos rfl] at el
  refine z3w (i:=d.C) h hd rfl rfl (goodPr_iff.1 (z98 h.pr hi)).1 (by show w.p.Height≤_;omega) h.pt (by show (((w.p.Queue.filter (z1k d.C)).length:Nat):Int)≤_;omega) ?_ fun j hj hji=>⟨zjv hi hj hji _,.of ?_⟩
  ·have hci:=zlu (C:=(zd8 w).consumers) hi { zc w.consumers d.C with On:=false,Gone:=true,Out:={ (zc w.consumers d.C).Out with Closed:=true } }
   refine ⟨?_,?_,?_,?_,?_,?_,?_,?_,fun k k2=>?_⟩
   ·rw[hci];exact zp4 ⟨rfl,g1.2⟩ g2 g3 g4 g5
   ·rw[hci];show (zc w.consumers d.C).Height≤w.deeds+1;omega
   ·rw[hci];exact hw.time
   ·rw[hci];show (((zc w.consumers d.C).Pending.length+(zc w.consumers d.C).Ripes.length:Nat):Int)≤w.deeds+1;omega
   ·rw[hci];exact (congrArg Link.On el).symm
   ·rw[hci];exact (congrArg Link.Gone el).symm
   ·show ∀ s,s∈(zh (zu8 w.p.Links d.C) d.C).Out.Said→Pk1 s
    rw[el];exact hw.told
   ·rw[hci];exact hw.said
   ·have k':(zh (zu8 w.p.Links d.C) d.C).Gone=false:=k2
    rw[el] at k';cases k'
  ·show zh (zu8 w.p.Links d.C) j=_
   rw[zwb hi hj,if_neg hji]
 ·rw[if_pos (by exact h0)];exact zl5 h hd
theorem zacm {w:Wld} (h:OkW w) (hd:w.deeds < 600) (d:Deed):OkW (zvb (zd8 w) d).1:=by
 have hm:=zl5 h hd
 unfold zvb
 by_cases c1:d.Kind < 4∨12 < d.Kind
 ·rw[if_pos c1];exact hm
 rw[if_neg c1]
 by_cases c2:d.C < 0∨2≤d.C
 ·rw[if_pos c2];exact hm
 rw[if_neg c2]
 have hi:0≤d.C∧d.C < 2:=by omega
 by_cases c3:d.Kind≠4∧(zd8 w).consumers.On.get d.C=false
 ·rw[if_pos c3];exact hm
 rw[if_neg c3]
 by_cases c4:d.Kind=4
 ·rw[if_pos c4];exact zaju h hd _
 rw[if_neg c4]
 have ho:(zc w.consumers d.C).On=true:=by
  cases e:(zc w.consumers d.C).On with
  | true=>rfl
  | false=>exact absurd ⟨c4,e⟩ c3
 repeat' split
 ·exact zaci h hd hi ho
 ·exact zajt h hd hi ho _
 ·exact zack h hd hi ho
 ·exact zagb h hd hi ho
 ·exact zanb h hd hi ho _
 ·exact zaf6 h hd hi ho _ _
 ·exact hm
theorem zarv {w:Wld} (h:OkW w) (hd:w.deeds < 600) (d:Deed):OkW (actW (zd8 w) d).1:=by
 have hm:=zl5 h hd
 unfold actW
 repeat' split
 ·exact zaac hm _ _ _
 ·exact z4q hm _ _ _
 ·exact zaf2 hm _
 ·exact zam7 hm _ _
 ·exact zam8 hm _
 ·exact zacl h hd
 ·exact zacm h hd d
theorem z5z {w:Wld} (h:OkW w) (d:Deed):OkW (doW w d).1:=by
 unfold doW
 split
 ·exact h
 ·rename_i hd;exact zarv h (by omega) d
theorem zacn:zmi=some newW:=by
 rw[zmi,zxb,Tr.rb zafs,Tr.rl];rfl
theorem zanc (w:Wld):zh8 w=some (w.clock,w):=by rw[zh8,zjg,Tr.rl]
theorem z50 {l:List Power} (h:l.length*16≤140737488355328):ze8 l=some l:=by
 rw[ze8,zqw,Tr.rg (by rw[zar];omega),Tr.rl]
theorem zz9 {l:List Int} (h:l.length*8≤140737488355328):zb3 l=some l:=by
 rw[zb3,zo5,Tr.rg (by rw[zhk];omega),Tr.rl]
theorem zaaf {p:Packet} (h1:p.Set.length*16≤140737488355328) (h2:p.Done.length*8≤140737488355328):ze9 p=some p:=by
 rw[ze9,zqy,z50 h1,zz9 h2,Tr.rg (by rfl),Tr.rg (by rfl),Tr.rl];rfl
theorem zagc {l:zcd} (h1:l.Said.length*16≤140737488355328) (h2:l.Due.length*8≤140737488355328):zi1 l=some l:=by
 rw[zi1,zo6,zz9 h2,Tr.rg (by show (0+l.Said.length)*16≤_;omega),Tr.rg (by rfl),Tr.rl];rfl
theorem zaag {w:Wld} {i:Int} (hf:(0≤i∧i < 2)→FitC 140737488351232 (zc w.consumers i)):zbx i w=some (if 0≤i∧i < 2 then zc w.consumers i else default,w):=by
 rw[zbx,zge]
 by_cases hi:0≤i∧i < 2
 ·have hf:=hf hi
  have e1:=z50 (l:=w.consumers.Set.get i) (by have:(w.consumers.Set.get i).length*16≤_:=hf.set;omega)
  have e3:=zagc (l:=(zc w.consumers i).Out) (by have:=hf.said;omega) (by have:=hf.due;omega)
  have hr:(w.consumers.Ripes.get i).length*16≤140737488351232:=hf.ripes
  have hp:(w.consumers.Pending.get i).length*80≤140737488351232:=hf.pend
  have l1:∀ z q,zd6 (w.consumers.Pending.get i) (w.consumers.Pending.get i).length 0 w z q []=some (w,z,q,w.consumers.Pending.get i):=by
   intro z q
   have hps:∀ p,p∈w.consumers.Pending.get i→p.Set.length*16≤140737488351232∧p.Done.length*8≤140737488351232:=hf.ps
   generalize w.consumers.Pending.get i=l at *
   rw[zd6]
   have:=zlq (F:=fun s:(List Packet)×Int×Int×Wld×zb×zb×(List Packet)=>(zbi s.1 s.2.1 s.2.2.1 s.2.2.2.1 s.2.2.2.2.1 s.2.2.2.2.2.1 s.2.2.2.2.2.2).run) l.length (fun i t=>(l,(l.length:Int),(i:Int),w,z,q,t)) (fun i t=>t=l.take i) (fun _ _=>(w,z,q,l)) ?_ ?_ 0 [] (Nat.zero_le _) rfl
   ·exact this
   ·rintro t rfl
    simp only[zbi];rw[Tr.rf (by simp),Tr.rl,List.take_length]
   ·rintro k t hk ht
    obtain ⟨p1,p2⟩:=hps _ (zgv (l:=l) (k:=k) hk default)
    have htl:t.length≤k:=by rw[ht,List.length_take];omega
    refine .inl ⟨t++[l.getD k default],?_,by rw[ht,zju hk default],by trivial⟩
    simp only[zbi,yy4]
    rw[Tr.rt (by simpa using hk),Tr.rg ⟨by omega,by rw[zeo];omega⟩,Tr.rb (zaaf (by omega) (by omega)),Tr.rg (by simp only[zeo,yy5];omega),Tr.rl,zq (by omega)]
  rw[if_pos hi,Tr.rf (by simp;omega),Tr.rg hi,e1,e3,Tr.rg (by rfl),Tr.rg (by rfl),Tr.rg (by rw[zjs];omega)]
  simp only[yy2]
  rw[Tr.rb (v:=(w,default,zc w.consumers i,w.consumers.Pending.get i)) (by exact l1 default _),Tr.rl]
  rfl
 ·rw[if_neg hi,Tr.rt (by simp;omega),Tr.rl]
theorem zagd {w:Wld} (h:OkW w) {i:Int} (hi:0≤i∧i < 2) (b:Bool):(zajn (zgy w i b)).size≤71:=by
  have hw:=h.c i hi
  unfold zajn
  split
  · rename_i hg
    have hmem:(zgy w i b).Said.getD (zgy w i b).Got.toNat .empty∈(zgy w i b).Said:=by
      by_cases h0:(zgy w i b).Got.toNat < (zgy w i b).Said.length
      · exact zgv h0 _
      · exact absurd hg (by
          cases b with
          | true =>
                    have:0≤(zc w.consumers i).Out.Got:=(zc3 hw.good).2.1.2.2.1
                    show ¬ (zc w.consumers i).Out.Got < _
                    have h0':¬ (zc w.consumers i).Out.Got.toNat < (zc w.consumers i).Out.Said.length:=h0
                    show ¬ (zc w.consumers i).Out.Got < (((zc w.consumers i).Out.Said.length:Nat):Int)
                    omega
          | false =>
                     have:0≤(zh w.p.Links i).Out.Got:=(h.p.lk hi).line.2.2.1
                     have h0':¬ (zh w.p.Links i).Out.Got.toNat < (zh w.p.Links i).Out.Said.length:=h0
                     show ¬ (zh w.p.Links i).Out.Got < (((zh w.p.Links i).Out.Said.length:Nat):Int)
                     omega)
    generalize (zgy w i b).Said.getD (zgy w i b).Got.toNat .empty=s at hmem
    have:∃ q,zef q=0∧s=txt (zvl q):=by
      cases b with
      | true=>obtain ⟨q,q1,_,q2⟩:=hw.said s hmem;exact ⟨q,q1,q2⟩
      | false=>obtain ⟨q,q1,_,q2⟩:=hw.told s hmem;exact ⟨q,q1,q2⟩
    obtain ⟨q,q1,rfl⟩:=this
    have:=z3p q1
    rw[zyy,z28];omega
  · decide
theorem zajw {n:Nat} (h:n≤1000):zef (zajm n)=0:=by
 have hw:i64.wrap (1+(n:Int))=1+n:=zm (by omega) (by omega)
 unfold zef zajm
 rw[hw]
 simp only[]
 rw[if_neg (by omega),if_neg (by omega),if_neg (by simp),if_neg (by simp[z6]),if_neg (by simp[zas])]
theorem zarw {w:Wld} (h:OkW w) {i:Int} (hi:0≤i∧i < 2) (b f:Bool):znu (zgy w i b) f=some (zmp (zgy w i b) f)∧(zmp (zgy w i b) f).size≤71:=by
 have hz:=zagd h hi b
 have hg0:0≤(zgy w i b).Got:=by
  cases b with
  | true=>exact (zc3 (h.c i hi).good).2.1.2.2.1
  | false=>exact (h.p.lk hi).line.2.2.1
 have hE:∀ n:Nat,zbg (⟨3,1,0,i64.wrap (1+(n:Int)),[],[]⟩:Packet)=some (zhl (zajm n)):=fun n=>z25 (by simp) (by simp)
 generalize zgy w i b=l at *
 have hsz:(zmp l f).size≤71:=by
  unfold zmp
  cases f with
  | true=>rw[if_pos rfl,zmm (zajw (by omega)),zyy,z28];simp[zajm]
  | false=>rw[if_neg (by simp)];exact hz
 refine ⟨?_,hsz⟩
 rw[znu,zuj]
 unfold zmp
 unfold zajn at hz ⊢
 by_cases hl:l.Got < ((l.Said.length:Nat):Int)
 ·rw[if_pos hl,Tr.rt (by simpa using hl),Tr.rg ⟨hg0,by show l.Got < ((l.Said.length:Nat):Int);exact hl⟩]
  cases f with
  | true=>rw[Tr.rf (by rfl),if_pos rfl,Tr.rb (hE _),Tr.rl]
  | false=>rw[Tr.rt (by rfl),if_neg (by simp),Tr.rl]
 ·rw[if_neg hl,Tr.rf (by simpa using hl)]
  cases f with
  | true=>rw[Tr.rf (by rfl),if_pos rfl,Tr.rb (hE _),Tr.rl]
  | false=>rw[Tr.rt (by rfl),if_neg (by simp),Tr.rl]
theorem zage {w:Wld} (hf:FitPr 140737488351232 w.p):zgf w=some ((zp5 w).2,(zp5 w).1):=by
 rw[zgf,zg6,zafu hf,Tr.rg (by rfl)]
 simp only[yy2]
 unfold zp5
 by_cases h0:(zo9 w.p w.clock).2.2=0
 ·rw[Tr.rf (by simpa using h0),if_neg (by simpa using h0)]
  have turn:∀ (c:Nat),c < 2→∀ (u:Wld) l z (p:za),(za1 l (c:Int) u z p).run=some (.inl (l,((c+1:Nat):Int),{ u with heads:={ u.heads with PHeight:=u.heads.PHeight.set c p.Height,PTime:=u.heads.PTime.set c p.Time,PSaid:=u.heads.PSaid.set c (((p.Links.Said.get c).length:Nat):Int),PGot:=u.heads.PGot.set c (u.consumers.Got.get c) } },z,p)):=by
   intro c hc u l z p
   simp only[za1]
   rw[Tr.rt (by simp;omega),Tr.rg ⟨by omega,by omega⟩,Tr.rg ⟨by omega,by omega⟩,Tr.rg ⟨by omega,by omega⟩,Tr.rg ⟨by omega,by omega⟩,Tr.rl,zq (by omega)]
  have loop:∀ l z,zen l 0 { w with p:=(zo9 w.p w.clock).1 } z (zo9 w.p w.clock).1=some (l,{ w with p:=(zo9 w.p w.clock).1,heads:=zam5 w.heads (zo9 w.p w.clock).1 w.consumers },z):=by
   intro l z
   generalize (zo9 w.p w.clock).1=p
   rw[zen,zdw (turn 0 (by omega) _ _ _ _),zdw (turn 1 (by omega) _ _ _ _),zga (by
    show (za1 _ 2 _ _ _).run=_
    simp only[za1]
    rw[Tr.rf (by simp),Tr.rl])]
   rfl
  rw[Tr.rb (v:=((zo9 w.p w.clock).2.1,{ w with p:=(zo9 w.p w.clock).1,heads:=zam5 w.heads (zo9 w.p w.clock).1 w.consumers },⟨0,0⟩)) (by exact loop _ _),Tr.rl]
 ·rw[Tr.rt (by simpa using h0),if_pos h0,Tr.rl];rfl
theorem zaco {C:zc5} {i:Int} (hi:0≤i∧i < 2) (l:zcd):({ C with Said:=C.Said.set i l.Said,Due:=C.Due.set i l.Due,Got:=C.Got.set i l.Got,Closed:=C.Closed.set i l.Closed }:zc5)=zny C i { zc C i with Out:=l }:=by
 unfold zny zc
 simp only[zs0 _ hi]
theorem zagf {w:Wld} (h:OkW w) {d:Deed} (hi:0≤d.C∧d.C < 2):zgg d w=some ((zva w d).2,(zva w d).1):=by
 rw[zgg,zg7,Tr.rg hi,Tr.rg hi]
 obtain ⟨t1,t2⟩:=zarw h hi d.Back d.Forged
 unfold zva zpf
 cases hb:d.Back with
 | true =>
  rw[hb] at t1 t2
  have e0:(zc w.consumers d.C).Out=zgy w d.C true:=rfl
  have e1:w.consumers.Got.get d.C=(zgy w d.C true).Got:=rfl
  rw[Tr.rt rfl,e0,Tr.rb t1,e1,z5g,Tr.rg (by rfl)]
  simp only[yy2]
  have es:zaab w d.C true=w.p.Links.SSaid.get d.C:=rfl
  rw[← es]
  by_cases h0:(znv (zgy w d.C true) (i64.wrap ((zgy w d.C true).Got+1)) (zmp (zgy w d.C true) d.Forged) (zaab w d.C true) w.clock).2=0
  ·rw[Tr.rf (by simpa using h0),if_neg (by simpa using h0),Tr.rt rfl,if_pos trivial,zacd h.fit (by omega),Tr.rg (by rfl)]
   simp only[yy2]
   by_cases h1:(zrx w.p d.C (zmp (zgy w d.C true) d.Forged).data.toList).2=0
   ·rw[Tr.rf (by simpa using h1),if_neg (by simpa using h1),Tr.rl,zaco hi]
   ·rw[Tr.rt (by simpa using h1),if_pos h1,Tr.rl];rfl
  ·rw[Tr.rt (by simpa using h0),if_pos h0,Tr.rl];rfl
 | false =>
  rw[hb] at t1 t2
  have e0:(zh w.p.Links d.C).Out=zgy w d.C false:=rfl
  have e1:w.p.Links.Got.get d.C=(zgy w d.C false).Got:=rfl
  rw[Tr.rf rfl,e0,Tr.rb t1,e1,z5g,Tr.rg (by rfl)]
  simp only[yy2]
  have es:zaab w d.C false=w.consumers.SSaid.get d.C:=rfl
  rw[← es]
  by_cases h0:(znv (zgy w d.C false) (i64.wrap ((zgy w d.C false).Got+1)) (zmp (zgy w d.C false) d.Forged) (zaab w d.C false) w.clock).2=0
  ·rw[Tr.rf (by simpa using h0),if_neg (by simpa using h0),Tr.rf rfl,if_neg (by simp),Tr.rb (zark ((h.c d.C hi).fit h.d1) (by omega))]
   by_cases h1:(zy2 (zc w.consumers d.C) (zmp (zgy w d.C false) d.Forged).data.toList).2=0
   ·rw[Tr.rf (by simpa using h1),if_neg (by simpa using h1),Tr.rl];rfl
   ·rw[Tr.rt (by simpa using h1),if_pos h1,Tr.rl];rfl
  ·rw[Tr.rt (by simpa using h0),if_pos h0,Tr.rl];rfl
theorem zajx {w:Wld} (h:OkW w) {d:Deed} (hi:0≤d.C∧d.C < 2):zg8 d w=some ((zz8 w d).2,(zz8 w d).1):=by
 rw[zg8,zia,Tr.rg hi,Tr.rg hi]
 have hr:=z7z h.fit (c:=d.C)
 unfold zz8 zajo
 cases hb:d.Back with
 | true =>
  rw[Tr.rt rfl,if_pos rfl,Tr.rb (z9e _ _ _ _)]
  by_cases h0:(zzx (zc w.consumers d.C).Out d.N (w.consumers.STime.get d.C) (w.consumers.SGot.get d.C)).2=0
  ·rw[Tr.rf (by simpa using h0),if_neg (by simpa using h0),hr,Tr.rg (by rfl),Tr.rb z9x,Tr.rl];rfl
  ·rw[Tr.rt (by simpa using h0),if_pos h0,Tr.rl];rfl
 | false =>
  rw[Tr.rf rfl,if_neg (show ¬ (false=true) by simp),Tr.rb (z9e _ _ _ _)]
  by_cases h0:(zzx (zh w.p.Links d.C).Out d.N (w.p.Links.STime.get d.C) (w.p.Links.SGot.get d.C)).2=0
  ·rw[Tr.rf (by simpa using h0),if_neg (by simpa using h0),hr,Tr.rg (by rfl),Tr.rb z9x,Tr.rl];rfl
  ·rw[Tr.rt (by simpa using h0),if_pos h0,Tr.rl];rfl
theorem zagg {w:Wld} (h:OkW w) {d:Deed}:zgh d w=some ((zvb w d).2,(zvb w d).1):=by
 rw[zgh,zg9]
 unfold zvb
 by_cases c1:d.Kind < 4∨12 < d.Kind
 ·rw[if_pos c1,Tr.rt (by simpa using c1),Tr.rl];rfl
 rw[if_neg c1,Tr.rf (by simp;omega)]
 by_cases c2:d.C < 0∨2≤d.C
 ·rw[if_pos c2,Tr.rt (by simpa using c2),Tr.rl];rfl
 have hi:0≤d.C∧d.C < 2:=by omega
 have hw:=h.c d.C hi
 have hfc:=hw.fit h.d1
 rw[if_neg c2,Tr.rf (by simp;omega),Tr.rg hi]
 by_cases c3:d.Kind≠4∧w.consumers.On.get d.C=false
 ·rw[if_pos c3,Tr.rt (by simpa using c3),Tr.rl];rfl
 rw[if_neg c3,Tr.rf (by
  rw[Bool.eq_false_iff];intro k;apply c3;simpa using k)]
 by_cases c4:d.Kind=4
 ·rw[if_pos c4,Tr.rt (by simpa using c4),z95 h.fit,Tr.rg (by rfl)]
  simp only[yy2]
  unfold z5x
  by_cases h0:(zf0 w.p d.C).2=0
  ·obtain ⟨f1,_,f3,f4,f5,f6,f7⟩:=z3x h0
   have hs:(zf0 w.p d.C).1.Set.length*16≤140737488355328:=by rw[f7];have:=h.fit.set;show w.p.Set.length*16≤_;omega
   rw[Tr.rf (by simpa using h0),if_neg (by simpa using h0),zamq hs,Tr.rg (by rfl),Tr.rg hi,Tr.rl]
   rfl
  ·rw[Tr.rt (by simpa using h0),if_pos h0,Tr.rl];rfl
 rw[if_neg c4,Tr.rf (by simpa using c4)]
 have hsz:=hw.size;have hd1:=h.d1
 by_cases c7:d.Kind=7
 ·have he:zz (zc w.consumers d.C) w.clock=some (z73 w.clock (zc w.consumers d.C)):=zaxh hfc (by omega)
  rw[if_pos c7,Tr.rt (by simpa using c7),he,Tr.rg (by rfl)]
  simp only[yy2]
  unfold z1m
  by_cases h0:(z73 w.clock (zc w.consumers d.C)).2=0
  ·rw[Tr.rt (by simpa using h0),Tr.rg hi,Tr.rg hi,Tr.rg (by omega),Tr.rf (by simpa using h0),if_neg (by simpa using h0),Tr.rl];rfl
  ·rw[Tr.rf (by simpa using h0),Tr.rt (by simpa using h0),if_pos h0,Tr.rl];rfl
 rw[if_neg c7,Tr.rf (by simpa using c7)]
 by_cases c8:d.Kind=8
 ·rw[if_pos c8,Tr.rt (by simpa using c8)]
  unfold zaee
  cases hb:d.Back with
  | true =>
   rw[Tr.rt rfl,if_pos rfl,Tr.rg hi,Tr.rg (by omega),Tr.rg hi,Tr.rf rfl,Tr.rl,zaaa hi];rfl
  | false =>
   rw[Tr.rf rfl,if_neg (show ¬ (false=true) by simp),Tr.rg hi,Tr.rg (by omega),Tr.rf rfl,Tr.rl];rfl
 rw[if_neg c8,Tr.rf (by simpa using c8)]
 by_cases c9:d.Kind=9
 ·rw[if_pos c9,Tr.rt (by simpa using c9),Tr.rb (zagf h hi),Tr.rl]
 rw[if_neg c9,Tr.rf (by simpa using c9)]
 by_cases c10:d.Kind=10
 ·rw[if_pos c10,Tr.rt (by simpa using c10),Tr.rb (zajx h hi),Tr.rl]
 rw[if_neg c10,Tr.rf (by simpa using c10)]
 by_cases c11:d.Kind=11
 ·rw[if_pos c11,Tr.rt (by simpa using c11),zarl hfc,Tr.rg (by rfl)]
  simp only[yy2]
  unfold putW
  by_cases h0:(z9w (zc w.consumers d.C) d.V w.clock).2=0
  ·rw[Tr.rf (by simpa using h0),if_neg (by simpa using h0),Tr.rl]
  ·rw[Tr.rt (by simpa using h0),if_pos h0,Tr.rl];rfl
 rw[if_neg c11,Tr.rf (by simpa using c11)]
 by_cases c12:d.Kind=12
 ·rw[if_pos c12,Tr.rt (by simpa using c12),zai3 hfc,Tr.rg (by rfl)]
  simp only[yy2]
  unfold putW
  by_cases h0:(zz2 (zc w.consumers d.C) d.V d.N w.clock).2=0
  ·rw[Tr.rf (by simpa using h0),if_neg (by simpa using h0),Tr.rl]
  ·rw[Tr.rt (by simpa using h0),if_pos h0,Tr.rl];rfl
 rw[if_neg c12,Tr.rf (by simpa using c12),Tr.rf rfl,Tr.rl,zaaa hi]
theorem zagh {w:Wld} (h:OkW w) {d:Deed} (hn:d.N≤9223372036854775807):zx d w=some ((doW w d).2,(doW w d).1):=by
 rw[zx,zm5]
 unfold doW
 by_cases c0:600≤w.deeds
 ·rw[if_pos c0,Tr.rt (by simpa using c0),Tr.rl];rfl
 have hd:w.deeds < 600:=by omega
 have hd0:=h.d0
 have hw:i64.wrap (w.deeds+1)=w.deeds+1:=zm (by omega) (by omega)
 have hm:=zl5 h hd
 rw[if_neg c0,Tr.rf (by simpa using c0),hw]
 have e0:({ w with deeds:=w.deeds+1 }:Wld)=zd8 w:=rfl
 unfold actW
 by_cases c1:d.Kind=1
 ·rw[if_pos c1,Tr.rt (by simpa using c1),Tr.rb (z3l h.fit hn)]
  unfold zxl
  by_cases h0:(zgd w.p d.D d.V d.N).2=0
  ·rw[Tr.rf (by simpa using h0),if_neg (by show ¬ (zgd w.p d.D d.V d.N).2≠0;simpa using h0),Tr.rl];rfl
  ·rw[Tr.rt (by simpa using h0),if_pos (by exact h0),Tr.rl];rfl
 rw[if_neg c1,Tr.rf (by simpa using c1)]
 by_cases c2:d.Kind=2
 ·rw[if_pos c2,Tr.rt (by simpa using c2),zz5 h.fit hn,Tr.rg (by rfl)]
  simp only[yy2]
  unfold zxl
  by_cases h0:(zhm w.p d.D d.V d.N w.clock).2=0
  ·rw[Tr.rf (by simpa using h0),if_neg (by show ¬ (zhm w.p d.D d.V d.N w.clock).2≠0;simpa using h0),Tr.rl];rfl
  ·rw[Tr.rt (by simpa using h0),if_pos (by exact h0),Tr.rl];rfl
 rw[if_neg c2,Tr.rf (by simpa using c2)]
 by_cases c3:d.Kind=3
 ·rw[if_pos c3,Tr.rt (by simpa using c3),Tr.rb zaip]
  unfold zxl
  by_cases h0:(zdn w.p.Stake d.V 1).2=0
  ·rw[Tr.rf (by simpa using h0),if_neg (by show ¬ (zdn w.p.Stake d.V 1).2≠0;simpa using h0),Tr.rl];rfl
  ·rw[Tr.rt (by simpa using h0),if_pos (by exact h0),Tr.rl];rfl
 rw[if_neg c3,Tr.rf (by simpa using c3)]
 by_cases c13:d.Kind=13
 ·rw[if_pos c13,Tr.rt (by simpa using c13),Tr.rb (z3o h.fit)]
  unfold zxl
  by_cases h0:(z3n w.p d.V d.N).2=0
  ·rw[Tr.rf (by simpa using h0),if_neg (by show ¬ (z3n w.p d.V d.N).2≠0;simpa using h0),Tr.rl];rfl
  ·rw[Tr.rt (by simpa using h0),if_pos (by exact h0),Tr.rl];rfl
 rw[if_neg c13,Tr.rf (by simpa using c13)]
 by_cases c5:d.Kind=5
 ·rw[if_pos c5,Tr.rt (by simpa using c5)]
  have t0:=h.t0;have t1:=h.t1
  have h1:i64.wrap (1099511627736 - w.clock)=1099511627736 - w.clock:=zm (by omega) (by omega)
  rw[h1]
  unfold zam6
  by_cases h0:d.N < 1∨1099511627736 - w.clock < d.N
  ·rw[Tr.rt (by simpa using h0),if_pos (by exact h0),Tr.rl];rfl
  ·have h2:i64.wrap (w.clock+d.N)=w.clock+d.N:=zm (by omega) (by omega)
   rw[Tr.rf (by simp;omega),if_neg (by exact h0),Tr.rl,h2];rfl
 rw[if_neg c5,Tr.rf (by simpa using c5)]
 by_cases c6:d.Kind=6
 ·rw[if_pos c6,Tr.rt (by simpa using c6),e0,Tr.rb (zage hm.fit),Tr.rl]
 rw[if_neg c6,Tr.rf (by simpa using c6),e0,Tr.rb (zagg hm),Tr.rl]
def stk7:Stake:=⟨⟨⟨99300,100000,100000,100000⟩,700,0,0⟩,{ zaxe with Tokens:=⟨700,0,0,0,0,0⟩,Shares:=⟨700,0,0,0,0,0⟩ },⟨⟨700,0,0,0,0,0⟩,⟨0,0,0,0,0,0⟩,⟨0,0,0,0,0,0⟩,⟨0,0,0,0,0,0⟩⟩,[],1⟩
theorem zajy:GoodS stk7:=by decide
theorem zaah:zdh newS 0 0 700=(stk7,0):=by
 have h:zfk newS 0 0=0:=by
  unfold zfk
  rw[if_neg (by simpa using zaiw),if_neg (by omega)]
 unfold zdh
 rw[if_neg (by simpa using h),if_neg (by decide),if_neg (by omega),if_neg (by decide),if_neg (by decide),if_neg (by decide),if_neg (by decide)]
 rfl
theorem zajz:setS stk7=[⟨0,7⟩]:=by rfl
def p7:za:={ z90 with Stake:=stk7 }
def p8:za:=⟨1,5,stk7,[⟨0,7⟩],default,zafr (newM 0 0) (allP []) 5,[]⟩
theorem zarx:zay p7=true:=by decide
theorem zary:zay p8=true:=by decide
theorem zacp:zgd z90 0 0 700=(p7,0):=by
 unfold zgd
 rw[if_pos z5u]
 show (if (zdh newS 0 0 700).2≠0 then _ else (({ z90 with Stake:=(zdh newS 0 0 700).1 }:za),(0:Int)))=_
 rw[zaah];rfl
theorem zaxq:zo9 p7 5=(p8,[],0):=by
 have hpay:z5m stk7 5=(stk7,[],0):=by unfold z5m;rw[if_neg (by simpa using zajy)];rfl
 unfold zo9
 rw[if_pos ⟨zarx,by decide,by decide⟩]
 have hp:znx p7 5=p8:=by
  unfold znx
  show ({ zwa p7 5 with Stake:=(z5m stk7 5).1,Set:=setS (z5m stk7 5).1,Queue:=[] }:za)=_
  rw[hpay,zajz];rfl
 rw[hp,zaeb (p:=p8) (c:=0) rfl,zaeb (p:=p8) (c:=1) rfl]
 show (p8,(z5m stk7 5).2.1,(0:Int))=_
 rw[hpay]
def w1:Wld:=⟨0,p7,default,default,1⟩
def w2:Wld:=⟨5,p7,default,default,2⟩
def w3:Wld:=⟨5,p8,default,zam5 default p8 default,3⟩
theorem do_1:doW newW ⟨1,0,0,0,700,false,false⟩=(w1,⟨0,0⟩):=by
 show zxl (zd8 newW) (zgd z90 0 0 700)=_
 rw[zacp];rfl
theorem do_2:doW w1 ⟨5,0,0,0,5,false,false⟩=(w2,⟨0,5⟩):=by rfl
theorem do_3:doW w2 ⟨6,0,0,0,0,false,false⟩=(w3,⟨0,0⟩):=by
 show zp5 (zd8 w2)=_
 unfold zp5
 have e:zo9 (zd8 w2).p (zd8 w2).clock=(p8,[],0):=zaxq
 rw[e];rfl
theorem do_4:(doW w3 ⟨4,0,0,0,0,false,false⟩).2.N=1∧(doW w3 ⟨4,0,0,0,0,false,false⟩).1.clock=5∧(zc (doW w3 ⟨4,0,0,0,0,false,false⟩).1.consumers 0).Set=[⟨0,7⟩]:=by
 have hb:zf0 p8 0=(zpa p8 0 (p8.Stake.Waits.map (zjt 0 p8.Height)) (zxn p8),0):=by
  unfold zf0
  rw[if_neg (by rw[zary];simp),if_pos (by omega),if_neg (by decide),if_neg (by decide),if_neg (by decide)]
 have e:doW w3 ⟨4,0,0,0,0,false,false⟩=z5x (zd8 w3) 0:=rfl
 rw[e]
 unfold z5x
 have e2:zf0 (zd8 w3).p 0=(zpa p8 0 (p8.Stake.Waits.map (zjt 0 p8.Height)) (zxn p8),0):=hb
 rw[e2]
 exact ⟨rfl,rfl,rfl⟩
theorem okW1:OkW w1:=by have:=z5z zacg ⟨1,0,0,0,700,false,false⟩;rw[do_1] at this;exact this
theorem okW2:OkW w2:=by have:=z5z okW1 ⟨5,0,0,0,5,false,false⟩;rw[do_2] at this;exact this
theorem okW3:OkW w3:=by have:=z5z okW2 ⟨6,0,0,0,0,false,false⟩;rw[do_3] at this;exact this
theorem okW4:OkW (doW w3 ⟨4,0,0,0,0,false,false⟩).1:=z5z okW3 _
structure Alike (w w':Wld):Prop where
 p:w'.p=w.p
 c:w'.consumers=w.consumers
 t:w'.clock=w.clock
theorem Alike.refl (w:Wld):Alike w w:=⟨rfl,rfl,rfl⟩
theorem Alike.more (w:Wld):Alike w (zd8 w):=⟨rfl,rfl,rfl⟩
def za3v (w:Wld) (i:Int) (c:zb):Wld:={ zd8 w with consumers:=zny w.consumers i c }
def z0a (w:Wld) (i:Int):Wld:={ za3v w i (z73 w.clock (zc w.consumers i)).1 with heads:=zaxn w.heads i (z73 w.clock (zc w.consumers i)).1 (w.p.Links.Got.get i) }
theorem OkW.cfit {w:Wld} (h:OkW w) {i:Int} (hi:0≤i∧i < 2):FitC 140737488351232 (zc w.consumers i):=(h.c i hi).fit h.d1
theorem zarz {w:Wld} (h:OkW w) {i:Int} (hi:0≤i∧i < 2):zbx i w=some (zc w.consumers i,w):=by
 rw[zaag fun hi=>h.cfit hi,if_pos hi]
theorem zand:zul=some true:=by
 obtain ⟨e1,e2,e3⟩:=do_4
 rw[zul,zxc,Tr.rb zacn,Tr.rb (zagh zacg (by decide)),do_1,Tr.rb (zagh okW1 (by decide)),do_2,Tr.rb (zagh okW2 (by decide)),do_3,Tr.rb (zagh okW3 (by decide))]
 simp only[e1]
 rw[Tr.rt (by rfl),Tr.rb (zanc _),Tr.rt (by rw[e2];rfl),Tr.rb (zarz okW4 (by omega)),Tr.rl,e3]
 rfl
theorem zdy {σ ρ τ:Type} {F:σ→Option (σ⊕ρ)} (n:Nat) (mk:Nat→τ→σ) (I:Nat→τ→Prop) (out:τ→ρ)
  (hend:∀ t,I n t→F (mk n t)=some (.inr (out t))) (hstep:∀ i t,i < n→I i t→∃ t',F (mk i t)=some (.inl (mk (i+1) t'))∧I (i+1) t') {t:τ} (h0:I 0 t):∃ t',zcv F (mk 0 t)=some (out t')∧I n t':=by
 obtain ⟨r,h1,t',h2,h3⟩:=zhj (F:=F) n mk I (fun _ _ r=>∃ t',r=out t'∧I n t') (fun t h=>⟨out t,hend t h,t,rfl,h⟩) (fun i t hi h=>by
  obtain ⟨t',k1,k2⟩:=hstep i t hi h
  exact .inl ⟨t',k1,k2,fun r hr=>hr⟩) 0 t (Nat.zero_le _) h0
 exact ⟨t',by rw[h1,h2],h3⟩
def zaai (l:List Deed):Nat:=min l.length 120
theorem zaj0 {l:List Deed}:((decide (((zaai l:Nat):Int) < ((l.length:Nat):Int)))&&(decide (((zaai l:Nat):Int) < 120)))=false:=by
 unfold zaai
 rw[Bool.and_eq_false_iff,yy8,yy8]
 omega
theorem zaj1 {l:List Deed} {i:Nat} (h:i < zaai l):((decide ((i:Int) < ((l.length:Nat):Int)))&&(decide ((i:Int) < 120)))=true:=by
 unfold zaai at h
 rw[yy7,decide_eq_true_eq,decide_eq_true_eq]
 omega
theorem zane {l:List Deed} {i:Nat} (h:i < zaai l):i < l.length:=by unfold zaai at h;omega
theorem z0v (l:List Deed):Sl.len (.deeds l)=l.length:=rfl
def zaxr (l:List Deed):Prop:=l.length≤4611686018427387904∧∀ d,d∈l→d.N≤9223372036854775807
theorem zuy {l:List Power} (hl:l.length≤9223372036854775807):zau l l=some true:=by
 have loop:zib l l 0=some (.inr ()):=by
  rw[zib]
  have:=zyu (F:=fun s:(List Power)×(List Power)×Int=>(zdv s.1 s.2.1 s.2.2).run) l default (fun i=>(l,l,(i:Int))) (fun _=>true) false () (by
    simp only[zdv];rw[Tr.rf (by simp),Tr.rl]) (by
    intro i hi _
    simp only[zdv,yy4]
    rw[Tr.rt (by simpa using hi),Tr.rg ⟨by omega,by rw[zar];omega⟩,Tr.rg ⟨by omega,by rw[zar];omega⟩,Tr.rf (by simp),Tr.rl,zq (by omega)]) (by intro i hi h;cases h)
  rw[if_pos (by simp)] at this
  exact this
 rw[zau,zm6,Tr.rf (by simp),Tr.rj loop,Tr.rl]
theorem z51 {l:zcd} (h1:l.Said.length≤9223372036854775807) (h2:l.Due.length≤9223372036854775807):zfe l l=some true:=by
 have a1:zkk l.Said.length 0 l l=some (.inr (l,l)):=by
  rw[zkk]
  have:=zyu (F:=fun s:Int×Int×zcd×zcd=>(zfc s.1 s.2.1 s.2.2.1 s.2.2.2).run) l.Said default (fun i=>((l.Said.length:Int),(i:Int),l,l)) (fun _=>true) false (l,l) (by
    simp only[zfc];rw[Tr.rf (by simp),Tr.rl]) (by
    intro i hi _
    simp only[zfc,yy4]
    rw[Tr.rt (by simpa using hi),Tr.rg ⟨by omega,by show (i:Int) < ((l.Said.length:Nat):Int);omega⟩,Tr.rg ⟨by omega,by show (i:Int) < ((l.Said.length:Nat):Int);omega⟩,Tr.rf (by simp),Tr.rl,zq (by omega)]) (by intro i hi h;cases h)
  rw[if_pos (by simp)] at this
  exact this
 have a2:zkl l.Due.length 0 l l=some (.inr ()):=by
  rw[zkl]
  have:=zyu (F:=fun s:Int×Int×zcd×zcd=>(zfd s.1 s.2.1 s.2.2.1 s.2.2.2).run) l.Due default (fun i=>((l.Due.length:Int),(i:Int),l,l)) (fun _=>true) false () (by
    simp only[zfd];rw[Tr.rf (by simp),Tr.rl]) (by
    intro i hi _
    simp only[zfd,yy4]
    rw[Tr.rt (by simpa using hi),Tr.rg ⟨by omega,by rw[zhk];omega⟩,Tr.rg ⟨by omega,by rw[zhk];omega⟩,Tr.rf (by simp),Tr.rl,zq (by omega)]) (by intro i hi h;cases h)
  rw[if_pos (by simp)] at this
  exact this
 rw[zfe,zq2,Tr.rf (by simp),Tr.rj a1]
 simp only[]
 rw[Tr.rj a2,Tr.rl]
theorem zagi {p:za} (hf:FitPr 140737488351232 p):zfw p p=some true:=by
 have hs:=hf.set;have hw:=hf.waits
 have a1:zgi p.Stake.Waits.length 0 p p=some (.inr (p,p)):=by
  rw[zgi]
  have:=zyu (F:=fun s:Int×Int×za×za=>(zcn s.1 s.2.1 s.2.2.1 s.2.2.2).run) p.Stake.Waits default (fun i=>((p.Stake.Waits.length:Int),(i:Int),p,p)) (fun _=>true) false (p,p) (by
    simp only[zcn];rw[Tr.rf (by simp),Tr.rl]) (by
    intro i hi _
    simp only[zcn,yy4]
    rw[Tr.rt (by simpa using hi),Tr.rg ⟨by omega,by rw[zbc];omega⟩,Tr.rg ⟨by omega,by rw[zbc];omega⟩,Tr.rf (by simp),Tr.rl,zq (by omega)]) (by intro i hi h;cases h)
  rw[if_pos (by simp)] at this
  exact this
 have turn:∀ (c:Nat),c < 2→(zbn (c:Int) p p).run=some (.inl (((c+1:Nat):Int),p,p)):=by
  intro c hc
  have e1:=zuy (l:=p.Links.Told.get c) (by have:=hf.told c;omega)
  have e2:=z51 (l:=(zh p.Links c).Out) (by have:=hf.said c;show (p.Links.Said.get c).length≤_;omega) (by have:=hf.due c;show (p.Links.Due.get c).length≤_;omega)
  simp only[zbn]
  rw[Tr.rt (by simp;omega),Tr.rg ⟨by omega,by omega⟩,Tr.rg ⟨by omega,by omega⟩,e1,e2,Tr.rg (fun _=>⟨rfl,trivial⟩),Tr.rg (fun _=>⟨rfl,trivial⟩),Tr.rf (by simp),Tr.rl,zq (by omega)]
 have a2:zgj 0 p p=some (.inr ()):=by
  rw[zgj,zdw (s':=(((1:Nat):Int),p,p)) (turn 0 (by omega)),zdw (s':=(((2:Nat):Int),p,p)) (turn 1 (by omega)),zga (r:=.inr ()) (by
   show (zbn 2 p p).run=_
   simp only[zbn]
   rw[Tr.rf (by simp),Tr.rl])]
 rw[zfw,zkm,zuy (l:=p.Set) (by omega),Tr.rg (fun _=>⟨rfl,trivial⟩),Tr.rf (by simp),Tr.rj a1]
 simp only[]
 rw[Tr.rj a2,Tr.rl]
theorem zagj {c:zb} (hf:FitC 140737488351232 c):zfx c c=some true:=by
 have hs:=hf.set;have h1:=hf.said;have h2:=hf.due
 rw[zfx,zkn,zuy (l:=c.Set) (by omega),z51 (l:=c.Out) (by omega) (by omega),Tr.rg (fun _=>⟨rfl,trivial⟩),Tr.rg (fun _=>⟨rfl,trivial⟩),Tr.rl]
 simp
structure Grow (w w':Wld) (i:Int):Prop where
 link:(zh w.p.Links i).Out.Said <+: (zh w'.p.Links i).Out.Said
 cons:(zc w.consumers i).Out.Said <+: (zc w'.consumers i).Out.Said
theorem Grow.one {w w':Wld} {i j:Int} {c:zb} (hj:0≤j∧j < 2) (hi:0≤i∧i < 2) (hl:(zh w.p.Links i).Out.Said <+: (zh w'.p.Links i).Out.Said) (hc:w'.consumers=zny w.consumers j c) (h:(zc w.consumers j).Out.Said <+: c.Out.Said):Grow w w' i:=by
 refine ⟨hl,?_⟩
 rw[hc,zry hj hi]
 split
 ·rename_i e;rw[e];exact h
 ·exact List.prefix_refl _
def DeadI (s t:Stake):Prop:=∀ v:Int,0≤v→v < 6→(s.Validators.Dead.get v=true→t.Validators.Dead.get v=true)∧s.Validators.Lost.get v≤t.Validators.Lost.get v∧(s.Validators.Lost.get v < t.Validators.Lost.get v→s.Validators.Dead.get v=false∧t.Validators.Dead.get v=true)
theorem DeadI.same {s t:Stake} (h1:t.Validators.Dead=s.Validators.Dead) (h2:t.Validators.Lost=s.Validators.Lost):DeadI s t:=by
 intro v _ _
 rw[h1,h2]
 exact ⟨id,Int.le_refl _,fun h=>absurd h (Int.lt_irrefl _)⟩
theorem DeadI.refl (s:Stake):DeadI s s:=.same rfl rfl
theorem DeadI.trans {s t u:Stake} (h:DeadI s t) (k:DeadI t u):DeadI s u:=by
 intro v h0 h6
 obtain ⟨a1,a2,a3⟩:=h v h0 h6
 obtain ⟨b1,b2,b3⟩:=k v h0 h6
 refine ⟨fun x=>b1 (a1 x),by omega,fun x=>?_⟩
 by_cases e:s.Validators.Lost.get v < t.Validators.Lost.get v
 ·exact ⟨(a3 e).1,b1 (a3 e).2⟩
 ·obtain ⟨c1,c2⟩:=b3 (by omega)
  refine ⟨?_,c2⟩
  cases hd:s.Validators.Dead.get v with
  | false=>rfl
  | true=>rw[a1 hd] at c1;cases c1
def pkT (q:Packet):ByteArray:=txt (zvl q)
def za3w (s:List Power) (l:List Packet):List Power:=l.foldl (fun s q=>zyw s q.Set) s
def zar0:Int→List Packet→Prop
 | _,[]=>True
 | id,q::l=>id < q.Id∧zar0 q.Id l
structure WayI (w:Wld) (i:Int) (ms:List Packet):Prop where
 way:(zh w.p.Links i).Out.Said.drop (zh w.p.Links i).Out.Got.toNat=ms.map pkT
 good:∀ q,q∈ms→zef q=0∧q.Kind=1
 rise:zar0 (zc w.consumers i).Id ((zc w.consumers i).Pending++ms)
 id:(zc w.consumers i).Id≤w.p.Height
 ids:∀ q,q∈(zc w.consumers i).Pending++ms→q.Id≤w.p.Height
 told:za3w (zc w.consumers i).Set ((zc w.consumers i).Pending++ms)=(zh w.p.Links i).Told
theorem WayI.same {w w':Wld} {i:Int} {ms:List Packet} (h:WayI w i ms) (e1:(zh w'.p.Links i).Out.Said=(zh w.p.Links i).Out.Said) (e2:(zh w'.p.Links i).Out.Got=(zh w.p.Links i).Out.Got) (e3:(zh w'.p.Links i).Told=(zh w.p.Links i).Told)
  (e4:(zc w'.consumers i).Id=(zc w.consumers i).Id) (e5:(zc w'.consumers i).Pending=(zc w.consumers i).Pending) (e6:(zc w'.consumers i).Set=(zc w.consumers i).Set) (e7:w.p.Height≤w'.p.Height):WayI w' i ms:=by
 obtain ⟨a1,a2,a3,a4,a5,a6⟩:=h
 exact ⟨by rw[e1,e2];exact a1,a2,by rw[e4,e5];exact a3,by rw[e4];omega,fun q hq=>by rw[e5] at hq;have:=a5 q hq;omega,by rw[e5,e6,e3];exact a6⟩
theorem WayI.cons {w w':Wld} {i j:Int} {ms:List Packet} {c:zb} (hj:0≤j∧j < 2) (hi:0≤i∧i < 2) (h:WayI w i ms) (hl:(zh w'.p.Links i).Out.Said=(zh w.p.Links i).Out.Said∧(zh w'.p.Links i).Out.Got=(zh w.p.Links i).Out.Got∧(zh w'.p.Links i).Told=(zh w.p.Links i).Told)
  (hc:w'.consumers=zny w.consumers j c) (h1:c.Id=(zc w.consumers j).Id) (h2:c.Pending=(zc w.consumers j).Pending) (h3:c.Set=(zc w.consumers j).Set) (hH:w.p.Height≤w'.p.Height):WayI w' i ms:=by
 have e:=zry (C:=w.consumers) hj hi c
 refine h.same hl.1 hl.2.1 hl.2.2 ?_ ?_ ?_ hH
 all_goals
  rw[hc,e]
  split
  ·rename_i k;rw[k];assumption
  ·rfl
def za3x (w:Wld):Prop:=∀ i:Int,0≤i∧i < 2→(zc w.consumers i).On=true→∃ ms,WayI w i ms
def hN (x:Wait) (i:Int):Int:=if i=0 then x.h0 else x.h1
structure Near (y x:Wait):Prop where
 num:x.Number=y.Number
 due:x.Due=y.Due
 height:x.Height=y.Height
 v:x.V=y.V
 hold:∀ i:Int,0≤i∧i < 2→hN x i=hN y i∨hN x i=0
theorem Near.refl (x:Wait):Near x x:=⟨rfl,rfl,rfl,rfl,fun _ _=>.inl rfl⟩
theorem Near.trans {a b c:Wait} (h:Near a b) (k:Near b c):Near a c :=
 ⟨k.num.trans h.num,k.due.trans h.due,k.height.trans h.height,k.v.trans h.v,fun i hi=>by
  rcases k.hold i hi with e | e
  ·rw[e];exact h.hold i hi
  ·exact .inr e⟩
def NearW (W W':List Wait):Prop:=∀ x,x∈W'→∃ y,y∈W∧Near y x
theorem NearW.refl (W:List Wait):NearW W W:=fun x hx=>⟨x,hx,.refl x⟩
theorem NearW.trans {A B C:List Wait} (h:NearW A B) (k:NearW B C):NearW A C:=fun x hx=>by
 obtain ⟨y,hy,n1⟩:=k x hx
 obtain ⟨z,hz,n2⟩:=h y hy
 exact ⟨z,hz,n2.trans n1⟩
theorem NearW.map {W:List Wait} {f:Wait→Wait} (hf:∀ x,Near x (f x)):NearW W (W.map f):=fun x hx=>by
 obtain ⟨y,hy,rfl⟩:=List.mem_map.1 hx
 exact ⟨y,hy,hf y⟩
theorem zagk {C:zc5} {i j:Int} (hj:0≤j∧j < 2) (hi:0≤i∧i < 2) (c:zb):(i=j∧zc (zny C j c) i=c)∨(i≠j∧zc (zny C j c) i=zc C i):=by
 by_cases e:i=j
 ·exact .inl ⟨e,by rw[e];exact zlu hj c⟩
 ·exact .inr ⟨e,zjv hj hi e c⟩
structure OneI (w:Wld) (i:Int):Prop where
 o1:(zh w.p.Links i).Out.Closed=false
 o2:(zc w.consumers i).Out.Closed=false
 n1:(((zh w.p.Links i).Out.Said.length:Nat):Int)≤w.p.Height
 rip:∀ r,r∈(zc w.consumers i).Ripes→r.Due≤w.clock+15
theorem OneI.same {w w':Wld} {i:Int} (h:OneI w i) (e1:(zh w'.p.Links i).Out.Closed=(zh w.p.Links i).Out.Closed) (e2:(zh w'.p.Links i).Out.Said=(zh w.p.Links i).Out.Said) (e3:(zc w'.consumers i).Out.Closed=(zc w.consumers i).Out.Closed)
  (e4:(zc w'.consumers i).Ripes=(zc w.consumers i).Ripes) (e5:w.p.Height≤w'.p.Height) (e6:w.clock≤w'.clock):OneI w' i:=by
 obtain ⟨a1,a2,a3,a4⟩:=h
 exact ⟨by rw[e1];exact a1,by rw[e3];exact a2,by rw[e2];omega,fun r hr=>by rw[e4] at hr;have:=a4 r hr;omega⟩
structure OneW (w:Wld):Prop where
 one:∀ i:Int,0≤i∧i < 2→(zc w.consumers i).On=true→OneI w i
 met:w.p.Meter.Next≤w.clock+10
theorem OneW.cons {w w':Wld} (h:OneW w) {j:Int} (hj:0≤j∧j < 2) {c:zb} (hc:w'.consumers=zny w.consumers j c) (hon:(zc w.consumers j).On=true)
  (hl:∀ i:Int,0≤i∧i < 2→(zh w'.p.Links i).Out.Closed=(zh w.p.Links i).Out.Closed∧(zh w'.p.Links i).Out.Said=(zh w.p.Links i).Out.Said)
  (h1:c.Out.Closed=(zc w.consumers j).Out.Closed) (h2:∀ r,r∈c.Ripes→r.Due≤w.clock+15) (hH:w'.p.Height=w.p.Height) (hM:w'.p.Meter=w.p.Meter) (ht:w'.clock=w.clock):OneW w':=by
 refine ⟨fun i hi ho=>?_,by rw[hM,ht];exact h.met⟩
 rw[hc] at ho
 obtain ⟨l1,l2⟩:=hl i hi
 rcases zagk (C:=w.consumers) hj hi c with ⟨e,ec⟩ | ⟨e,ec⟩
 ·subst e
  obtain ⟨a1,a2,a3,a4⟩:=h.one i hi hon
  exact ⟨by rw[l1];exact a1,by rw[hc,ec,h1];exact a2,by rw[l2,hH];exact a3,fun r hr=>by rw[hc,ec] at hr;rw[ht];exact h2 r hr⟩
 ·rw[ec] at ho
  exact (h.one i hi ho).same l1 l2 (by rw[hc,ec]) (by rw[hc,ec]) (by rw[hH];exact Int.le_refl _) (by rw[ht];exact Int.le_refl _)
def Wit (w:Wld) (i h:Int):Prop :=
 ((zh w.p.Links i).Fresh=true∧h≤w.p.Height+1) ∨
 (∃ q,(q∈(zc w.consumers i).Pending∨zef q=0∧pkT q∈(zh w.p.Links i).Out.Said.drop (zh w.p.Links i).Out.Got.toNat)∧h≤q.Id) ∨
 (∃ r,r∈(zc w.consumers i).Ripes∧h≤r.Id) ∨
 (∃ q,zef q=0∧q.Kind=2∧pkT q∈(zc w.consumers i).Out.Said.drop (zc w.consumers i).Out.Got.toNat∧h≤q.Id) ∨
 (∃ a,a∈w.p.Queue∧a.C=i∧a.P.Kind=2∧h≤a.P.Id)
theorem Wit.mono {w w':Wld} {i h:Int} (k:Wit w i h) (f:(zh w.p.Links i).Fresh=true→(zh w'.p.Links i).Fresh=true) (H:w.p.Height≤w'.p.Height)
  (P:∀ q,q∈(zc w.consumers i).Pending→q∈(zc w'.consumers i).Pending)
  (S:∀ s,s∈(zh w.p.Links i).Out.Said.drop (zh w.p.Links i).Out.Got.toNat→s∈(zh w'.p.Links i).Out.Said.drop (zh w'.p.Links i).Out.Got.toNat)
  (R:∀ r,r∈(zc w.consumers i).Ripes→r∈(zc w'.consumers i).Ripes)
  (B:∀ s,s∈(zc w.consumers i).Out.Said.drop (zc w.consumers i).Out.Got.toNat→s∈(zc w'.consumers i).Out.Said.drop (zc w'.consumers i).Out.Got.toNat)
  (Q:∀ a,a∈w.p.Queue→a.C=i→a∈w'.p.Queue):Wit w' i h:=by
 rcases k with ⟨k1,k2⟩ | ⟨q,k1,k2⟩ | ⟨r,k1,k2⟩ | ⟨q,k0,k1,k2,k3⟩ | ⟨a,k0,k1,k2,k3⟩
 ·exact .inl ⟨f k1,by omega⟩
 ·refine .inr (.inl ⟨q,?_,k2⟩)
  rcases k1 with k1 | ⟨k1,k3⟩
  ·exact .inl (P q k1)
  ·exact .inr ⟨k1,S _ k3⟩
 ·exact .inr (.inr (.inl ⟨r,R r k1,k2⟩))
 ·exact .inr (.inr (.inr (.inl ⟨q,k0,k1,B _ k2,k3⟩)))
 ·exact .inr (.inr (.inr (.inr ⟨a,Q a k0 k1,k1,k2,k3⟩)))
structure za3y (w:Wld) (x:Wait):Prop where
 due:x.Due≤w.clock+20
 height:x.Height≤w.p.Height+1
 top:∀ i:Int,0≤i∧i < 2→0≤hN x i∧hN x i≤w.p.Height+1
 hold:∀ i:Int,0≤i∧i < 2→0 < hN x i→(zc w.consumers i).On=true∧Wit w i (hN x i)
def HoldW (w:Wld):Prop:=∀ x,x∈w.p.Stake.Waits→za3y w x
theorem HoldW.keep {w w':Wld} (h:HoldW w) (hp:0≤w.p.Height) (hW:NearW w.p.Stake.Waits w'.p.Stake.Waits) (hH:w'.p.Height=w.p.Height) (ht:w.clock≤w'.clock)
  (hk:∀ i n:Int,0≤i∧i < 2→(zc w.consumers i).On=true→Wit w i n→(zc w'.consumers i).On=true∧Wit w' i n):HoldW w':=by
 intro x hx
 obtain ⟨y,hy,n⟩:=hW x hx
 obtain ⟨a1,a2,a3,a4⟩:=h y hy
 refine ⟨by rw[n.due];omega,by rw[n.height,hH];exact a2,fun i hi=>?_,fun i hi h0=>?_⟩
 ·rw[hH]
  rcases n.hold i hi with e | e
  ·rw[e];exact a3 i hi
  ·rw[e];omega
 ·rcases n.hold i hi with e | e
  ·rw[e] at h0 ⊢
   obtain ⟨k1,k2⟩:=a4 i hi h0
   exact hk i _ hi k1 k2
  ·omega
theorem HoldW.one {w w':Wld} (h:OkW w) (hh:HoldW w) {j:Int} (hj:0≤j∧j < 2) (hW:w'.p.Stake.Waits=w.p.Stake.Waits) (hH:w'.p.Height=w.p.Height) (ht:w'.clock=w.clock)
  (hl:∀ i:Int,0≤i∧i < 2→i≠j→zh w'.p.Links i=zh w.p.Links i∧zc w'.consumers i=zc w.consumers i) (hQ:∀ a,a∈w.p.Queue→a∈w'.p.Queue)
  (hon:(zc w'.consumers j).On=(zc w.consumers j).On) (hk:∀ n:Int,Wit w j n→Wit w' j n):HoldW w':=by
 refine hh.keep h.p.2.1.1 (by rw[hW];exact .refl _) hH (by rw[ht];exact Int.le_refl _) fun i n hi ho k=>?_
 by_cases e:i=j
 ·subst e;exact ⟨hon.trans ho,hk n k⟩
 ·obtain ⟨e1,e2⟩:=hl i hi e
  exact ⟨by rw[e2];exact ho,k.mono (by rw[e1];exact id) (by rw[hH];exact Int.le_refl _) (by rw[e2];exact fun _ h=>h) (by rw[e1];exact fun _ h=>h) (by rw[e2];exact fun _ h=>h) (by rw[e2];exact fun _ h=>h) (fun a ha _=>hQ a ha)⟩
def fwdN (w:Wld) (i:Int):Int:=(((zh w.p.Links i).Out.Said.length:Nat):Int) - (zh w.p.Links i).Out.Got
def sdN (w:Wld) (i:Int):Int:=(((zc w.consumers i).Out.Said.length:Nat):Int)
def bckN (w:Wld) (i:Int):Int:=sdN w i - (zc w.consumers i).Out.Got
def zaj2 (w:Wld) (i:Int):Int:=(((zc w.consumers i).Pending.length+(zc w.consumers i).Ripes.length:Nat):Int)
def cntN (w:Wld) (i:Int):Int:=sdN w i+zaj2 w i+fwdN w i
def phiN (w:Wld) (i:Int):Int:=if (zc w.consumers i).On=true then 2*fwdN w i+zaj2 w i+bckN w i+2 else 0
structure Meas (w w':Wld) (i a b:Int):Prop where
 cnt:(zc w'.consumers i).On=true→cntN w' i≤(if (zc w.consumers i).On=true then cntN w i else 0)+a
 phi:phiN w' i≤phiN w i+b
theorem Meas.of {w w':Wld} {i a b:Int} (ho:(zc w'.consumers i).On=(zc w.consumers i).On) (x y z u:Int) (e1:fwdN w' i=fwdN w i+x) (e2:zaj2 w' i=zaj2 w i+y) (e3:bckN w' i=bckN w i+z) (e4:sdN w' i=sdN w i+u)
  (k1:u+y+x≤a) (k2:2*x+y+z≤b) (k3:0≤b):Meas w w' i a b:=by
 refine ⟨fun h=>?_,?_⟩
 ·rw[ho] at h
  rw[if_pos h]
  unfold cntN;omega
 ·unfold phiN
  rw[ho]
  split<;>omega
theorem Meas.same {w w':Wld} {i a b:Int} (h1:zc w'.consumers i=zc w.consumers i) (h2:(zh w'.p.Links i).Out=(zh w.p.Links i).Out) (ha:0≤a) (hb:0≤b):Meas w w' i a b :=
 .of (by rw[h1]) 0 0 0 0 (by unfold fwdN;rw[h2];omega) (by unfold zaj2;rw[h1];omega) (by unfold bckN sdN;rw[h1];omega) (by unfold sdN;rw[h1];omega) (by omega) (by omega) hb
structure za3z (w:Wld):Prop where
 ok:OkW w
 told:za3x w
 one:OneW w
 hold:HoldW w
 h4:w.p.Height < 399
def psiN (w:Wld):Int:=w.deeds+phiN w 0+phiN w 1
structure Fr (w w':Wld) (i:Int):Prop where
 clock:w'.clock=w.clock
 height:w'.p.Height=w.p.Height
 set:w'.p.Set=w.p.Set
 vals:w'.p.Stake.Validators=w.p.Stake.Validators
 met:w'.p.Meter=w.p.Meter
 other:∀ j:Int,0≤j∧j < 2→j≠i→zc w'.consumers j=zc w.consumers j∧zh w'.p.Links j=zh w.p.Links j
 waits:NearW w.p.Stake.Waits w'.p.Stake.Waits
theorem Fr.refl (w:Wld) (i:Int):Fr w w i:=⟨rfl,rfl,rfl,rfl,rfl,fun _ _ _=>⟨rfl,rfl⟩,.refl _⟩
theorem Fr.trans {a b c:Wld} {i:Int} (h:Fr a b i) (k:Fr b c i):Fr a c i :=
 ⟨k.clock.trans h.clock,k.height.trans h.height,k.set.trans h.set,k.vals.trans h.vals,k.met.trans h.met,fun j hj e=>⟨(k.other j hj e).1.trans (h.other j hj e).1,(k.other j hj e).2.trans (h.other j hj e).2⟩,h.waits.trans k.waits⟩
structure SameP (h h':zvc):Prop where
 time:h'.PTime=h.PTime
 got:h'.PGot=h.PGot
 said:h'.PSaid=h.PSaid
theorem SameP.refl (h:zvc):SameP h h:=⟨rfl,rfl,rfl⟩
theorem SameP.trans {a b c:zvc} (h:SameP a b) (k:SameP b c):SameP a c:=⟨k.time.trans h.time,k.got.trans h.got,k.said.trans h.said⟩
def ripR (w:Wld) (i:Int):List Ripe:=(zc w.consumers i).Ripes++(zc w.consumers i).Pending.map (fun p=>(⟨p.Id,w.clock+15⟩:Ripe))
structure Done (w:Wld) (i:Int) (k:Nat):Prop where
 k0:k≤(ripR w i).length
 live:za3z (z0a w i)
 psi:psiN (z0a w i)≤psiN w+1
 on:(zc (z0a w i).consumers i).On=true
 pend:(zc (z0a w i).consumers i).Pending=[]
 ripes:(zc (z0a w i).consumers i).Ripes=(ripR w i).drop k
 said:(zc (z0a w i).consumers i).Out.Said=(zc w.consumers i).Out.Said++((ripR w i).take k).map matT
 got:(zc (z0a w i).consumers i).Out.Got=(zc w.consumers i).Out.Got
 ok:∀ r,r∈ripR w i→zkx r=true
 all:(∀ r,r∈ripR w i→r.Due≤w.clock)→cntN w i < 400→(ripR w i).drop k=[]
 hp:SameP w.heads (z0a w i).heads
 ctime:(z0a w i).heads.CTime.get i=w.clock
 cgot:(z0a w i).heads.CGot.get i=(zh w.p.Links i).Out.Got
 csaid:(z0a w i).heads.CSaid.get i=(((zc (z0a w i).consumers i).Out.Said.length:Nat):Int)
 cnt:cntN (z0a w i) i≤cntN w i
def ChainP (H:Int→List Power→Prop):Int→List Power→List Packet→Prop
 | id,s,[]=>H id s
 | id,s,q::l=>H id s∧ChainP H q.Id (zyw s q.Set) l
theorem ChainP.mono {H K:Int→List Power→Prop} {m:Int} (hk:∀ n s,m≤n→H n s→K n s):∀ {l:List Packet} {id:Int} {s:List Power},m≤id→zar0 id l→ChainP H id s l→ChainP K id s l
 | [],_,_,hm,_,h=>hk _ _ hm h
 | q::l,id,_,hm,hr,h=>⟨hk _ _ hm h.1,h.2.mono hk (by have:=hr.1;omega) hr.2⟩
def SetsI (H:Int→List Power→Prop) (w:Wld) (i:Int):Prop:=∃ ms,WayI w i ms∧ChainP H (zc w.consumers i).Id (zc w.consumers i).Set ((zc w.consumers i).Pending++ms)
theorem SetsI.same {H K:Int→List Power→Prop} {w w':Wld} {i:Int} (hk:∀ n s,(zc w.consumers i).Id≤n→H n s→K n s) (h:SetsI H w i) (e1:(zh w'.p.Links i).Out.Said=(zh w.p.Links i).Out.Said) (e2:(zh w'.p.Links i).Out.Got=(zh w.p.Links i).Out.Got) (e3:(zh w'.p.Links i).Told=(zh w.p.Links i).Told)
  (e4:(zc w'.consumers i).Id=(zc w.consumers i).Id) (e5:(zc w'.consumers i).Pending=(zc w.consumers i).Pending) (e6:(zc w'.consumers i).Set=(zc w.consumers i).Set) (e7:w.p.Height≤w'.p.Height):SetsI K w' i:=by
 obtain ⟨ms,h1,h2⟩:=h
 exact ⟨ms,h1.same e1 e2 e3 e4 e5 e6 e7,by rw[e4,e5,e6];exact h2.mono hk (Int.le_refl _) h1.rise⟩
theorem SetsI.cons {H K:Int→List Power→Prop} {w w':Wld} {i j:Int} {c:zb} (hk:∀ n s,(zc w.consumers i).Id≤n→H n s→K n s) (hj:0≤j∧j < 2) (hi:0≤i∧i < 2) (h:SetsI H w i) (hl:(zh w'.p.Links i).Out.Said=(zh w.p.Links i).Out.Said∧(zh w'.p.Links i).Out.Got=(zh w.p.Links i).Out.Got∧(zh w'.p.Links i).Told=(zh w.p.Links i).Told)
  (hc:w'.consumers=zny w.consumers j c) (h1:c.Id=(zc w.consumers j).Id) (h2:c.Pending=(zc w.consumers j).Pending) (h3:c.Set=(zc w.consumers j).Set) (hH:w.p.Height≤w'.p.Height):SetsI K w' i:=by
 have e:=zry (C:=w.consumers) hj hi c
 refine h.same hk hl.1 hl.2.1 hl.2.2 ?_ ?_ ?_ hH
 all_goals
  rw[hc,e]
  split
  ·rename_i k;rw[k];assumption
  ·rfl
def behW (v g:Int):List Wait→Int
 | []=>0
 | w::l=>(if w.V=v∧g < w.Height then w.Amount else 0)+behW v g l
def behS (s:Stake) (v g:Int):Int:=s.Validators.Tokens.get v+s.Validators.Lost.get v+behW v g s.Waits
def MoreB (s t:Stake) (g:Int):Prop:=∀ v:Int,0≤v∧v < 6→behS s v g≤behS t v g
theorem MoreB.refl (s:Stake) (g:Int):MoreB s s g:=fun _ _=>Int.le_refl _
theorem MoreB.trans {a b c:Stake} {g:Int} (h:MoreB a b g) (k:MoreB b c g):MoreB a c g:=fun v hv=>Int.le_trans (h v hv) (k v hv)
theorem MoreB.of {s t:Stake} {g:Int} (h1:t.Validators.Tokens=s.Validators.Tokens) (h2:t.Validators.Lost=s.Validators.Lost) (h3:∀ v,behW v g t.Waits=behW v g s.Waits):MoreB s t g:=fun v _=>by
 unfold behS;rw[h1,h2,h3];exact Int.le_refl _
def KeepK (i m:Int) (W W':List Wait):Prop:=∀ x,x∈W'→∃ y,y∈W∧x.Height=y.Height∧(m < hN y i→hN x i=hN y i)
theorem KeepK.refl (i m:Int) (W:List Wait):KeepK i m W W:=fun x hx=>⟨x,hx,rfl,fun _=>rfl⟩
theorem KeepK.trans {i m:Int} {A B C:List Wait} (h:KeepK i m A B) (k:KeepK i m B C):KeepK i m A C:=fun x hx=>by
 obtain ⟨y,hy,e1,e2⟩:=k x hx
 obtain ⟨z,hz,e3,e4⟩:=h y hy
 exact ⟨z,hz,e1.trans e3,fun hm=>by have:=e4 hm;rw[e2 (by omega),this]⟩
theorem KeepK.map {i m:Int} {W:List Wait} {f:Wait→Wait} (hf:∀ x,(f x).Height=x.Height∧(m < hN x i→hN (f x) i=hN x i)):KeepK i m W (W.map f):=fun x hx=>by
 obtain ⟨y,hy,rfl⟩:=List.mem_map.1 hx
 exact ⟨y,hy,(hf y).1,(hf y).2⟩
structure BackI (w:Wld) (i:Int):Prop where
 held:∀ x,x∈w.p.Stake.Waits→(zc w.consumers i).Id < x.Height→hN x i=x.Height
 queue:∀ a,a∈w.p.Queue→a.C=i→a.P.Kind=2→a.P.Id≤(zc w.consumers i).Id
 said:∀ q,zef q=0→q.Kind=2→pkT q∈(zc w.consumers i).Out.Said→q.Id≤(zc w.consumers i).Id
 ripes:∀ r,r∈(zc w.consumers i).Ripes→r.Id≤(zc w.consumers i).Id
theorem BackI.mono {w w':Wld} {i:Int} (h:BackI w i) (hI:(zc w.consumers i).Id≤(zc w'.consumers i).Id) (hW:∀ x,x∈w'.p.Stake.Waits→(∃ y,y∈w.p.Stake.Waits∧x.Height=y.Height∧((zc w.consumers i).Id < hN y i→hN x i=hN y i))∨hN x i=x.Height)
  (hQ:∀ a,a∈w'.p.Queue→a.C=i→a.P.Kind=2→a∈w.p.Queue∨a.P.Id≤(zc w'.consumers i).Id)
  (hS:∀ q,zef q=0→q.Kind=2→pkT q∈(zc w'.consumers i).Out.Said→pkT q∈(zc w.consumers i).Out.Said∨q.Id≤(zc w'.consumers i).Id)
  (hR:∀ r,r∈(zc w'.consumers i).Ripes→r∈(zc w.consumers i).Ripes∨r.Id≤(zc w'.consumers i).Id):BackI w' i:=by
 obtain ⟨a1,a2,a3,a4⟩:=h
 refine ⟨fun x hx hlt=>?_,fun a ha hc hk=>?_,fun q hg hk hq=>?_,fun r hr=>?_⟩
 ·rcases hW x hx with ⟨y,hy,e1,e2⟩ | e
  ·have e3:=a1 y hy (by omega)
   rw[e2 (by omega),e3,e1]
  ·exact e
 ·rcases hQ a ha hc hk with z | z
  ·have:=a2 a z hc hk;omega
  ·exact z
 ·rcases hS q hg hk hq with z | z
  ·have:=a3 q hg hk z;omega
  ·exact z
 ·rcases hR r hr with z | z
  ·have:=a4 r z;omega
  ·exact z
theorem BackI.other {w w':Wld} {i:Int} (h:BackI w i) (hc:zc w'.consumers i=zc w.consumers i) (hW:∀ x,x∈w'.p.Stake.Waits→(∃ y,y∈w.p.Stake.Waits∧x.Height=y.Height∧((zc w.consumers i).Id < hN y i→hN x i=hN y i))∨hN x i=x.Height)
  (hQ:∀ a,a∈w'.p.Queue→a.C=i→a∈w.p.Queue):BackI w' i :=
 h.mono (by rw[hc];exact Int.le_refl _) hW (fun a ha hc _=>.inl (hQ a ha hc)) (fun q _ _ hq=>by rw[hc] at hq;exact .inl hq) (fun r hr=>by rw[hc] at hr;exact .inl hr)
def RelH (r:A2 Int) (w':Wld) (x x':Wait):Prop:=x.Number=x'.Number∧x.Due=x'.Due∧∀ c:Int,0≤c∧c < 2→hN x' c=hN x c∨hN x c≤r.get c∨w'.p.Links.Gone.get c=true
theorem RelH.refl (r:A2 Int) (w':Wld) (x:Wait):RelH r w' x x:=⟨rfl,rfl,fun _ _=>.inl rfl⟩
structure StepH (r:A2 Int) (w w':Wld) (k:Int):Prop where
 gone:∀ c:Int,0≤c∧c < 2→w.p.Links.Gone.get c=true→w'.p.Links.Gone.get c=true
 new:∀ x',x'∈w'.p.Stake.Waits→(∀ x,x∈w.p.Stake.Waits→x.Number≠x'.Number)∨∃ x,x∈w.p.Stake.Waits∧RelH r w' x x'
 old:∀ x,x∈w.p.Stake.Waits→(∃ x',x'∈w'.p.Stake.Waits∧x'.Number=x.Number)∨(k=6∧x.Due≤w'.p.Time∧∀ c:Int,0≤c∧c < 2→hN x c≤r.get c)
 ask:∀ a,a∈w'.p.Queue→a∈w.p.Queue∨((0≤a.C∧a.C < 2)∧zef a.P=0∧∃ n:Nat,(n:Int) < (zc w'.consumers a.C).Out.Got∧n < (zc w'.consumers a.C).Out.Said.length∧(zc w'.consumers a.C).Out.Said.getD n .empty=txt (zvl a.P))
theorem StepH.map {r:A2 Int} {w w':Wld} {k:Int} {f:Wait→Wait} (hW:w'.p.Stake.Waits=w.p.Stake.Waits.map f) (hf:∀ x,x∈w.p.Stake.Waits→RelH r w' x (f x))
  (hg:∀ c:Int,0≤c∧c < 2→w.p.Links.Gone.get c=true→w'.p.Links.Gone.get c=true) (hQ:∀ a,a∈w'.p.Queue→a∈w.p.Queue):StepH r w w' k:=by
 refine ⟨hg,fun x' hx=>?_,fun x hx=>.inl ⟨f x,by rw[hW];exact List.mem_map_of_mem hx,(hf x hx).1.symm⟩,fun a ha=>.inl (hQ a ha)⟩
 rw[hW] at hx
 obtain ⟨x,h1,rfl⟩:=List.mem_map.1 hx
 exact .inr ⟨x,h1,hf x h1⟩
theorem StepH.same {r:A2 Int} {w w':Wld} {k:Int} (hW:w'.p.Stake.Waits=w.p.Stake.Waits) (hg:∀ c:Int,0≤c∧c < 2→w.p.Links.Gone.get c=true→w'.p.Links.Gone.get c=true) (hQ:∀ a,a∈w'.p.Queue→a∈w.p.Queue):StepH r w w' k :=
 .map (f:=id) (by rw[hW,List.map_id]) (fun x _=>.refl r w' x) hg hQ
def LeR (r r':A2 Int):Prop:=∀ c:Int,0≤c∧c < 2→r.get c≤r'.get c
theorem LeR.trans {a b c:A2 Int} (h:LeR a b) (k:LeR b c):LeR a c:=fun i hi=>Int.le_trans (h i hi) (k i hi)
