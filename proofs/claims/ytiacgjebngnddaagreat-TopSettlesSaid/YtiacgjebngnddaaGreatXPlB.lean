/-
  The plain lemmas.
-/
import Derived.Test.YtiacgjebngnddaaGreatXAbInsert
import Derived.Test.YtiacgjebngnddaaGreatXFBank
import Derived.Test.YtiacgjebngnddaaGreatXFCodec
import Derived.Test.YtiacgjebngnddaaGreatXFCons
import Derived.Test.YtiacgjebngnddaaGreatXFLine
import Derived.Test.YtiacgjebngnddaaGreatXFProv
import Derived.Test.YtiacgjebngnddaaGreatXFStakeA
import Derived.Test.YtiacgjebngnddaaGreatXFStakeB
import Derived.Test.YtiacgjebngnddaaGreatXFTop
import Derived.Test.YtiacgjebngnddaaGreatXFWld
import Derived.Test.YtiacgjebngnddaaGreatXPlA
namespace Go.Proofs.YtiacgjebngnddaaGreat.Ab
open Go Go.RowKit
open Go.IntKind (i64 u64)
set_option linter.unusedVariables false
set_option linter.unusedSimpArgs false
def zje (l:List Power) (id now:Int):Consumer:=⟨true,false,0,now,id,l,[],[],⟨false,false,false,false,false,false⟩,⟨[],[],0,false⟩,⟨0,0,0,0⟩⟩
theorem zani {l:List Power} {id now:Int} (hl:l.length*16≤140737488355328):zg5 l id now=some (zje l id now):=by
 rw[zg5,zl9,Tr.rb (zaga hl),Tr.rl];rfl
def zox (c:Consumer) (s:List UInt8):Consumer×Int :=
 if zjg c=false then (c,2) else if c.On=false then (c,4) else if (za3 s).2≠0 then (c,(za3 s).2) else if (za3 s).1.Kind≠1 then (c,3)
 else ({ c with Pending:=c.Pending++[(za3 s).1] },0)
theorem zar9 {c:Consumer} {a:ByteArray} (h:FitC 140737488351232 c) (ha:a.size≤140737488355328):zik c a=some (zox c a.data.toList):=by
 have e1:zet a=some (za3 a.data.toList):=z9e (s:=a.data.toList) (by have:a.data.toList.length=a.size:=rfl;omega)
 have e2:=h.pend
 rw[zik,zn4,Tr.rb e1,Tr.rb (zr8 h)]
 simp only[zagb (l:=c.Pending) (by omega),Option.isSome_some,yy2]
 unfold zox
 cases hg:zjg c with
 | false=>rw[Tr.rt (by rfl),Tr.rl,if_pos rfl]
 | true =>
  rw[Tr.rf (by rfl),if_neg (by simp)]
  cases ho:c.On with
  | false=>rw[Tr.rt (by rfl),Tr.rl,if_pos rfl]
  | true =>
   rw[Tr.rf (by rfl),if_neg (by simp)]
   by_cases hd:(za3 a.data.toList).2=0
   ·rw[Tr.rf (by simpa using hd),if_neg (by simpa using hd)]
    by_cases hk:(za3 a.data.toList).1.Kind=1
    ·rw[Tr.rf (by simpa using hk),if_neg (by simpa using hk),Tr.rg (by trivial),Tr.rg (by simp only[zf3,yy5];omega),Tr.rl]
    ·rw[Tr.rt (by simpa using hk),if_pos hk,Tr.rl]
   ·rw[Tr.rt (by simpa using hd),if_pos hd,Tr.rl]
def zsw (p:Packet) (now:Int) (c:Consumer):Int×Consumer :=
 if (zgu p).2≠0 then ((zgu p).2,c)
 else if (z67 c.Out (zgu p).1 (i64.wrap (now+40))).2≠0 then ((z67 c.Out (zgu p).1 (i64.wrap (now+40))).2,c)
 else (0,{ c with Out:=(z67 c.Out (zgu p).1 (i64.wrap (now+40))).1 })
theorem zaef {p:Packet} {now:Int} {c:Consumer} (h:(zsw p now c).1≠0):(zsw p now c).2=c:=by
 unfold zsw at h ⊢
 split
 ·rfl
 ·split
  ·rfl
  ·rename_i h1 h2
   rw[if_neg h1,if_neg h2] at h
   exact absurd rfl h
theorem z5b {p:Packet} {now:Int} {c:Consumer}:(zsw p now c).2.Ripes=c.Ripes:=by
 unfold zsw
 repeat' split
 all_goals rfl
theorem zaeg {p:Packet} {now:Int} {c:Consumer} (h1:p.Set.length*16≤140737488351232) (h2:p.Done.length*8≤140737488351232):zbg p now c=some (zsw p now c):=by
 rw[zbg,zpz,Tr.rb (z2j h1 h2)]
 unfold zsw
 by_cases he:(zgu p).2=0
 ·rw[if_neg (by simpa using he),Tr.rf (by simpa using he),Tr.rb (zao5 _ _ _)]
  by_cases hs:(z67 c.Out (zgu p).1 (i64.wrap (now+40))).2=0
  ·rw[if_neg (by simpa using hs),Tr.rf (by simpa using hs),Tr.rl]
  ·rw[if_pos hs,Tr.rt (by simpa using hs),Tr.rl]
 ·rw[if_pos he,Tr.rt (by simpa using he),Tr.rl]
def clrC (c:Consumer) (v:Int):Consumer:={ c with Flags:=c.Flags.set v false }
def z9s (c:Consumer) (l:List Int):Consumer:=l.foldl clrC c
theorem z2u:∀ (l:List Int) (c:Consumer),z9s c l={ c with Flags:=l.foldl (fun f v=>f.set v false) c.Flags }
 | [],c=>rfl
 | v::l,c=>by unfold z9s;rw[List.foldl_cons];exact (z2u l (clrC c v)).trans rfl
def znc (now:Int) (c:Consumer) (p:Packet):Consumer :=
 { z9s { c with Set:=zsp c.Set p.Set,Id:=p.Id } p.Done with Ripes:=(z9s { c with Set:=zsp c.Set p.Set,Id:=p.Id } p.Done).Ripes++[⟨p.Id,i64.wrap (now+15)⟩] }
theorem zr9 (now:Int) (c:Consumer) (p:Packet) :
  znc now c p={ c with Set:=zsp c.Set p.Set,Id:=p.Id,Flags:=p.Done.foldl (fun f v=>f.set v false) c.Flags,Ripes:=c.Ripes++[⟨p.Id,i64.wrap (now+15)⟩] }:=by
 unfold znc;rw[z2u]
def zpg (now:Int):List Ripe→Consumer→Consumer
 | [],c=>c
 | r::rs,c=>if r.Due≤now then (if (zsw ⟨2,r.Id,0,0,[],[]⟩ now c).1≠0 then c else zpg now rs { (zsw ⟨2,r.Id,0,0,[],[]⟩ now c).2 with Ripes:=rs }) else c
def zt9 (now:Int) (c:Consumer):Consumer×Int :=
 if zjg c=false then (c,2) else if c.On=false then (c,4) else if now < c.Time∨1099511627776 < now then (c,2)
 else (zpg now (c.Pending.foldl (znc now) { c with Height:=i64.wrap (c.Height+1),Time:=now }).Ripes { c.Pending.foldl (znc now) { c with Height:=i64.wrap (c.Height+1),Time:=now } with Pending:=[] },0)
theorem zawu {now x2 x3:Int} {x1:List Packet} {l:List Int} {c z:Consumer} {p:Packet} (hl:l.length≤9223372036854775807) (hv:∀ v,v∈l→0≤v∧v≤5) :
  zjz now x1 x2 x3 l l.length 0 c z p=some (now,x1,x2,x3,z9s c l,z,p):=by
 rw[zjz]
 refine zj6 (F:=fun s:Int×(List Packet)×Int×Int×(List Int)×Int×Int×Consumer×Consumer×Packet=>(zew s.1 s.2.1 s.2.2.1 s.2.2.2.1 s.2.2.2.2.1 s.2.2.2.2.2.1 s.2.2.2.2.2.2.1 s.2.2.2.2.2.2.2.1 s.2.2.2.2.2.2.2.2.1 s.2.2.2.2.2.2.2.2.2).run) l 0
  (fun i t=>(now,x1,x2,x3,l,(l.length:Int),(i:Int),t,z,p)) (fun _ _=>True) clrC (fun t=>(now,x1,x2,x3,t,z,p)) ?_ ?_ c trivial
 ·intro t _
  simp only[zew];rw[Tr.rf (by simp),Tr.rl]
 ·intro i t hi _
  have hm:=hv _ (zfl (l:=l) (k:=i) hi 0)
  refine ⟨?_,trivial⟩
  simp only[zew,yy4]
  rw[Tr.rt (by simpa using hi),Tr.rg ⟨by omega,by rw[zop];omega⟩,Tr.rg (by omega),Tr.rl,zy (by omega)]
  rfl
theorem z2v {l:List Packet} (h:l.all zms=true):∀ p,p∈l→zcs p=0∧p.Kind=1∧(∀ v,v∈p.Done→0≤v∧v≤5):=by
 intro p hp
 have h1:=List.all_eq_true.1 h p hp
 unfold zms at h1
 simp only[yy7,beq_iff_eq] at h1
 obtain ⟨g1,g2,g3,g4,g5,g6,g7,g8,g9,g10,_,_⟩:=zk0 h1.2
 exact ⟨h1.2,h1.1,zul g10 (by omega)⟩
theorem zawv {now:Int} {l:List Packet} {c z:Consumer} (hl:l.length≤9223372036854775807) (hg:l.all zms=true) (hs:c.Set.length≤9223372036854775807)
  (hp:∀ p,p∈l→p.Set.length*16≤140737488351232∧p.Done.length*8≤140737488351232) (hr:(c.Ripes.length+l.length)*16≤140737488355328) :
  zj0 now l l.length 0 c z=some (now,l.foldl (znc now) c,z):=by
 rw[zj0]
 refine zj6 (F:=fun s:Int×(List Packet)×Int×Int×Consumer×Consumer=>(zex s.1 s.2.1 s.2.2.1 s.2.2.2.1 s.2.2.2.2.1 s.2.2.2.2.2).run) l default
  (fun i t=>(now,l,(l.length:Int),(i:Int),t,z)) (fun i t=>t.Ripes.length=c.Ripes.length+i∧t.Set.length≤9223372036854775807) (znc now) (fun t=>(now,t,z)) ?_ ?_ c ⟨rfl,hs⟩
 ·intro t _
  simp only[zex];rw[Tr.rf (by simp),Tr.rl]
 ·intro i t hi ht
  obtain ⟨t1,t2⟩:=ht
  have hm:=zfl (l:=l) (k:=i) hi default
  obtain ⟨p1,p2⟩:=hp _ hm
  obtain ⟨q1,q2,q3⟩:=z2v hg _ hm
  have hset:=z2f (fun v=>zx5 (l.getD i default).Set v (zb8 t.Set v))
  refine ⟨?_,by rw[zr9];simp only[yy6,yy5];omega,by rw[zr9];unfold zsp;simp only[];omega⟩
  simp only[zex,yy4]
  rw[Tr.rt (by simpa using hi),Tr.rg ⟨by omega,by rw[zf3];omega⟩,Tr.rb (zamm t2 (by omega)),Tr.rb (zawu (by omega) q3)]
  simp only[]
  rw[Tr.rg (by simp only[zlx,yy5,z2u];omega),Tr.rl,zy (by omega)]
  rfl
theorem zao8 {now:Int} {z:Consumer}:∀ (rs:List Ripe) (c:Consumer),c.Ripes=rs→zbw now c z=some (zpg now rs c,z)
 | [],c,h=>by
  rw[zbw]
  refine zc3 ?_
  simp only[zc9,h]
  rw[Tr.rg (by simp),Tr.rf (by simp),Tr.rl]
  rfl
 | r::rs,c,h=>by
  have hlen:(Sl.len (.ripes (r::rs)))=rs.length+1:=rfl
  unfold zpg
  by_cases hd:r.Due≤now
  ·rw[if_pos hd]
   by_cases hs:(zsw ⟨2,r.Id,0,0,[],[]⟩ now c).1=0
   ·rw[if_neg (by simpa using hs),← zao8 rs { (zsw ⟨2,r.Id,0,0,[],[]⟩ now c).2 with Ripes:=rs } rfl,zbw,zbw]
    refine zca ?_
    simp only[zc9,h,List.getD_cons_zero,hlen,z5b]
    rw[Tr.rg (by intro _;exact ⟨⟨by omega,by omega⟩,trivial⟩),Tr.rt (by simp[hd]),Tr.rg (by omega),Tr.rb (zaeg (by simp) (by simp)),Tr.rf (by simpa using hs)]
    simp only[z5b,h,hlen]
    rw[Tr.rg (by omega),Tr.rl]
    simp only[List.drop_succ_cons,List.drop_zero,yy4,Nat.add_sub_cancel,List.take_length]
   ·rw[if_pos hs,zbw]
    refine zc3 ?_
    simp only[zc9,h,List.getD_cons_zero,hlen]
    rw[Tr.rg (by intro _;exact ⟨⟨by omega,by omega⟩,trivial⟩),Tr.rt (by simp[hd]),Tr.rg (by omega),Tr.rb (zaeg (by simp) (by simp)),Tr.rt (by simpa using hs),Tr.rl,zaef hs]
  ·rw[if_neg hd,zbw]
   refine zc3 ?_
   simp only[zc9,h,List.getD_cons_zero,hlen]
   rw[Tr.rg (by intro _;exact ⟨⟨by omega,by omega⟩,trivial⟩),Tr.rf (by simp[hd]),Tr.rl]
theorem zas {c:Consumer} (h:zjg c=true):zacj c∧zcb c.Out∧zx 1 (-1) c.Set=true∧c.Ripes.all zjd=true∧c.Pending.all zms=true:=by
 unfold zjg at h
 simp only[yy7,decide_eq_true_eq] at h
 exact ⟨h.1.1.1.1,h.1.1.1.2,h.1.1.2,h.1.2,h.2⟩
theorem zaww {now:Int} {c:Consumer} (h:FitC 140737488351232 c) (hr:(c.Ripes.length+c.Pending.length)*16≤140737488355328):zz c now=some (zt9 now c):=by
 have e1:=h.set;have e2:=h.pend;have e3:=h.ripes
 rw[zz,zp0,Tr.rb (zr8 h)]
 unfold zt9
 cases hg:zjg c with
 | false=>rw[Tr.rt (by rfl),Tr.rl,if_pos rfl]
 | true =>
  obtain ⟨_,_,_,_,hp⟩:=zas hg
  rw[Tr.rf (by rfl),if_neg (by simp)]
  cases ho:c.On with
  | false=>rw[Tr.rt (by rfl),Tr.rl,if_pos rfl]
  | true =>
   rw[Tr.rf (by rfl),if_neg (by simp)]
   by_cases ht:now < c.Time∨1099511627776 < now
   ·rw[if_pos ht,Tr.rt (by simpa using ht),Tr.rl]
   ·rw[if_neg ht,Tr.rf (by simp;omega),Tr.rb (zagc (by omega))]
    rw[Tr.rb (zawv (by omega) hp (by simp only[];omega) h.ps (by simp only[];omega))]
    simp only[]
    rw[Tr.rb (zao8 _ _ rfl),Tr.rl]<;>first | rw[ho] | rfl
theorem zvl {now:Int}:∀ (l:List Packet) (c:Consumer),(l.foldl (znc now) c).Ripes.length=c.Ripes.length+l.length∧(l.foldl (znc now) c).Out=c.Out∧(l.foldl (znc now) c).On=c.On∧(l.foldl (znc now) c).Gone=c.Gone∧(l.foldl (znc now) c).Height=c.Height∧(l.foldl (znc now) c).Time=c.Time
 | [],c=>⟨rfl,rfl,rfl,rfl,rfl,rfl⟩
 | p::l,c=>by
  rw[List.foldl_cons]
  obtain ⟨h1,h2,h3,h4,h5,h6⟩:=zvl l (znc now c p)
  rw[zr9] at h1 h2 h3 h4 h5 h6 ⊢
  refine ⟨?_,h2,h3,h4,h5,h6⟩
  rw[h1]
  show (c.Ripes++[(⟨p.Id,i64.wrap (now+15)⟩:Ripe)]).length+l.length=_
  rw[yy6,yy5,List.length_cons]
  omega
theorem z5c:∀ {l:List Power} {p v:Int},zx 1 p l=true→zb8 l v=0∨1≤zb8 l v
 | [],_,_,_=>.inl rfl
 | a::l,p,v,h=>by
  rw[zx] at h
  simp only[yy7,decide_eq_true_eq] at h
  unfold zb8
  split
  ·exact .inr h.1.1.2
  ·exact z5c h.2
def z2w (c:Consumer) (v now:Int):Consumer×Int :=
 if zjg c=false∨now < 0∨1099511627776 < now then (c,2) else if c.On=false∨v < 0∨5 < v∨zb8 c.Set v=0 then (c,4) else if c.Flags.get v=true then (c,5)
 else if (zsw ⟨3,c.Id,v,zb8 c.Set v,[],[]⟩ now c).1≠0 then (c,(zsw ⟨3,c.Id,v,zb8 c.Set v,[],[]⟩ now c).1)
 else ({ (zsw ⟨3,c.Id,v,zb8 c.Set v,[],[]⟩ now c).2 with Flags:=(zsw ⟨3,c.Id,v,zb8 c.Set v,[],[]⟩ now c).2.Flags.set v true },0)
theorem zasa {c:Consumer} {v now:Int} (h:FitC 140737488351232 c):zdy c v now=some (z2w c v now):=by
 have e1:=h.set
 have hsay:=fun n=>zaeg (p:=⟨3,c.Id,v,n,[],[]⟩) (now:=now) (c:=c) (by simp) (by simp)
 rw[zdy,zn6,Tr.rb (zr8 h)]
 simp only[zaee (l:=c.Set) (v:=v) (by omega),hsay,Option.isSome_some,yy2]
 unfold z2w
 by_cases h1:zjg c=false∨now < 0∨1099511627776 < now
 ·rw[if_pos h1,Tr.rt (by simpa[or_assoc] using h1),Tr.rl]
 ·rw[if_neg h1,Tr.rf (by rw[Bool.eq_false_iff];intro k;apply h1;simpa[or_assoc] using k),Tr.rg (by simp)]
  by_cases h2:c.On=false∨v < 0∨5 < v∨zb8 c.Set v=0
  ·rw[if_pos h2,Tr.rt (by
    simp only[Bool.or_eq_true,Bool.not_eq_true',decide_eq_true_eq,beq_iff_eq]
    rcases h2 with h2 | h2 | h2 | h2
    ·exact .inl (.inl (.inl h2))
    ·exact .inl (.inl (.inr h2))
    ·exact .inl (.inr (by omega))
    ·exact .inr h2),Tr.rl]
  ·simp only[not_or] at h2
   rw[if_neg (by simp only[not_or];exact h2),Tr.rf (by
    simp only[Bool.or_eq_false_iff,Bool.not_eq_false',yy8,beq_eq_false_iff_ne]
    exact ⟨⟨⟨by simpa using h2.1,h2.2.1⟩,by omega⟩,h2.2.2.2⟩),Tr.rg (by omega)]
   by_cases h3:c.Flags.get v=true
   ·rw[if_pos h3,Tr.rt h3,Tr.rl]
   ·rw[if_neg h3,Tr.rf (by simpa using h3),Tr.rg (by trivial),Tr.rg (by trivial)]
    by_cases h4:(zsw ⟨3,c.Id,v,zb8 c.Set v,[],[]⟩ now c).1=0
    ·rw[if_neg (by simpa using h4),Tr.rf (by simpa using h4),Tr.rg (by omega),Tr.rl]
    ·rw[if_pos h4,Tr.rt (by simpa using h4),Tr.rl,zaef h4]
def maxC (c:Consumer) (v:Int):Int:=if zb8 c.Set v=0 then 1 else zb8 c.Set v
def zqa (c:Consumer) (v id now:Int):Consumer×Int :=
 if zjg c=false∨now < 0∨1099511627776 < now then (c,2) else if c.On=false∨v < 0∨5 < v then (c,4) else if id < 1∨c.Id < id then (c,2)
 else ((zsw ⟨4,id,v,maxC c v,[],[]⟩ now c).2,(zsw ⟨4,id,v,maxC c v,[],[]⟩ now c).1)
theorem zaju {c:Consumer} {v id now:Int} (h:FitC 140737488351232 c):zcv c v id now=some (zqa c v id now):=by
 have e1:=h.set
 rw[zcv,zku,Tr.rb (zr8 h)]
 unfold zqa
 by_cases h1:zjg c=false∨now < 0∨1099511627776 < now
 ·rw[if_pos h1,Tr.rt (by simpa[or_assoc] using h1),Tr.rl]
 ·rw[if_neg h1,Tr.rf (by rw[Bool.eq_false_iff];intro k;apply h1;simpa[or_assoc] using k)]
  by_cases h2:c.On=false∨v < 0∨5 < v
  ·rw[if_pos h2,Tr.rt (by
    simp only[Bool.or_eq_true,Bool.not_eq_true',decide_eq_true_eq]
    rcases h2 with h2 | h2 | h2
    ·exact .inl (.inl h2)
    ·exact .inl (.inr h2)
    ·exact .inr (by omega)),Tr.rl]
  ·simp only[not_or] at h2
   rw[if_neg (by simp only[not_or];exact h2),Tr.rf (by
    simp only[Bool.or_eq_false_iff,Bool.not_eq_false',yy8]
    exact ⟨⟨by simpa using h2.1,h2.2.1⟩,by omega⟩)]
   by_cases h3:id < 1∨c.Id < id
   ·rw[if_pos h3,Tr.rt (by simpa using h3),Tr.rl]
   ·have hg:zjg c=true:=by simp only[not_or] at h1;simpa using h1.1
    have hf:=z5c (v:=v) (zas hg).2.2.1
    have hm:(if zb8 c.Set v > 1 then zb8 c.Set v else 1)=maxC c v:=by
     unfold maxC
     rcases hf with hf | hf
     ·rw[if_neg (by omega),if_pos hf]
     ·rw[if_neg (show ¬ zb8 c.Set v=0 by omega)]
      split<;>omega
    rw[if_neg h3,Tr.rf (by simp;omega),Tr.rb (zaee (by omega)),hm,Tr.rb (zaeg (by simp) (by simp))]
    by_cases h4:(zsw ⟨4,id,v,maxC c v,[],[]⟩ now c).1=0
    ·rw[Tr.rf (by simpa using h4),Tr.rl,h4]
    ·rw[Tr.rt (by simpa using h4),Tr.rl]
def zsa (c:Consumer):Consumer:=if c.On=false then c else { c with On:=false,Gone:=true,Out:={ c.Out with Closed:=true } }
theorem z9t {c:Consumer}:zgc c=some (zsa c):=by
 rw[zgc,zkv]
 unfold zsa
 cases ho:c.On with
 | false=>rw[Tr.rt (by rfl),Tr.rl,if_pos rfl]
 | true=>rw[Tr.rf (by rfl),Tr.rl,if_neg (by simp)]
theorem zack {l:zi6} {s:ByteArray} {u:Int} (h:(z67 l s u).2=0):zcb l∧0≤u∧l.Closed=false∧l.Said.length < 400∧z67 l s u=({ l with Said:=l.Said++[s],Due:=l.Due++[u] },0):=by
 unfold z67 at h ⊢
 by_cases h1:¬ zcb l∨u < 0
 ·rw[if_pos h1] at h;cases h
 ·rw[if_neg h1] at h ⊢
  simp only[not_or,Classical.not_not] at h1
  by_cases h2:l.Closed=true
  ·rw[if_pos h2] at h;cases h
  ·rw[if_neg h2] at h ⊢
   by_cases h3:400≤l.Said.length
   ·rw[if_pos h3] at h;cases h
   ·rw[if_neg h3]
    exact ⟨h1.1,by omega,by simpa using h2,by omega,rfl⟩
theorem zank {l:zi6} {s:ByteArray} {u:Int} (h1:zcb l) (h2:0≤u) (h3:l.Closed=false) (h4:l.Said.length < 400):z67 l s u=({ l with Said:=l.Said++[s],Due:=l.Due++[u] },0):=by
 unfold z67
 rw[if_neg (by simp only[not_or,Classical.not_not];exact ⟨h1,by omega⟩),if_neg (by rw[h3];simp),if_neg (by omega)]
theorem z5d {l:zi6} {s:ByteArray} {u:Int} (h1:zcb l) (h2:0≤u) (h4:l.Said.length < 400):zcb { l with Said:=l.Said++[s],Due:=l.Due++[u] }:=by
 obtain ⟨g1,g2,g3,g4,g5⟩:=h1
 refine ⟨by simp[g1],by simp only[yy6,yy5];omega,g3,by simp only[yy6,yy5];omega,?_⟩
 simp only[List.any_append,g5,Bool.false_or,List.any_cons,List.any_nil,Bool.or_false,yy8]
 omega
theorem zajv {p:Packet} {now:Int} {c:Consumer} (h:(zsw p now c).1=0):zcs p=0∧(z67 c.Out (txt (znb p)) (i64.wrap (now+40))).2=0 ∧
  zsw p now c=(0,{ c with Out:={ c.Out with Said:=c.Out.Said++[txt (znb p)],Due:=c.Out.Due++[i64.wrap (now+40)] } }):=by
 have hg:zcs p=0:=by
  refine Classical.byContradiction fun hn=>?_
  unfold zsw at h
  rw[zab6 hn,if_pos hn] at h
  exact hn h
 unfold zsw at h ⊢
 rw[zly hg,if_neg (by simp)] at h ⊢
 simp only at h ⊢
 by_cases hs:(z67 c.Out (txt (znb p)) (i64.wrap (now+40))).2=0
 ·rw[if_neg (by simpa using hs),(zack hs).2.2.2.2]
  exact ⟨hg,rfl,rfl⟩
 ·rw[if_pos hs] at h
  exact absurd h hs
theorem zanl {p:Packet} {now:Int} {c:Consumer} (hg:zcs p=0) (h1:zcb c.Out) (h2:0≤i64.wrap (now+40)) (h3:c.Out.Closed=false) (h4:c.Out.Said.length < 400) :
  zsw p now c=(0,{ c with Out:={ c.Out with Said:=c.Out.Said++[txt (znb p)],Due:=c.Out.Due++[i64.wrap (now+40)] } }):=by
 unfold zsw
 rw[zly hg,if_neg (by simp)]
 simp only
 rw[zank h1 h2 h3 h4,if_neg (by simp)]
theorem zph {c:Consumer} (h1:zacj c) (h2:zcb c.Out) (h3:zx 1 (-1) c.Set=true) (h4:c.Ripes.all zjd=true) (h5:c.Pending.all zms=true):zjg c=true:=by
 unfold zjg
 rw[decide_eq_true h1,decide_eq_true h2,h3,h4,h5];rfl
theorem zanm {now:Int} {c:Consumer} (h1:zjg c=true) (h2:c.On=true) (h3:c.Time≤now) (h4:now≤1099511627776) :
  zt9 now c=(zpg now (c.Pending.foldl (znc now) { c with Height:=i64.wrap (c.Height+1),Time:=now }).Ripes { c.Pending.foldl (znc now) { c with Height:=i64.wrap (c.Height+1),Time:=now } with Pending:=[] },0):=by
 unfold zt9
 rw[if_neg (by rw[h1];simp),if_neg (by rw[h2];simp),if_neg (by omega)]
theorem zaeh {c:Consumer} {v now:Int} (h:(z2w c v now).2=0):zjg c=true∧0≤now∧now≤1099511627776∧c.On=true∧0≤v∧v≤5∧zb8 c.Set v≠0∧(zsw ⟨3,c.Id,v,zb8 c.Set v,[],[]⟩ now c).1=0 ∧
  z2w c v now=({ (zsw ⟨3,c.Id,v,zb8 c.Set v,[],[]⟩ now c).2 with Flags:=(zsw ⟨3,c.Id,v,zb8 c.Set v,[],[]⟩ now c).2.Flags.set v true },0):=by
 unfold z2w at h ⊢
 by_cases h1:zjg c=false∨now < 0∨1099511627776 < now
 ·rw[if_pos h1] at h;cases h
 ·rw[if_neg h1] at h ⊢
  by_cases h2:c.On=false∨v < 0∨5 < v∨zb8 c.Set v=0
  ·rw[if_pos h2] at h;cases h
  ·rw[if_neg h2] at h ⊢
   by_cases h3:c.Flags.get v=true
   ·rw[if_pos h3] at h;cases h
   ·rw[if_neg h3] at h ⊢
    by_cases h4:(zsw ⟨3,c.Id,v,zb8 c.Set v,[],[]⟩ now c).1=0
    ·rw[if_neg (by simpa using h4)]
     simp only[not_or] at h1 h2
     exact ⟨by simpa using h1.1,by omega,by omega,by simpa using h2.1,by omega,by omega,h2.2.2.2,h4,rfl⟩
    ·rw[if_pos h4] at h
     exact absurd h h4
theorem z2x:zcb ⟨[],[],0,false⟩:=⟨rfl,by decide,by decide,by decide,by decide⟩
theorem zajw {id:Int} (h1:1≤id) (h2:id≤1099511627776):zcs ⟨2,id,0,0,[],[]⟩=0:=by
 unfold zcs
 rw[if_neg (by simp),if_neg (by simp;omega),if_neg (by simp),if_neg (by simp[zx]),if_neg (by simp[zat])]
theorem zacl {m p q:Int} {l:List Power} (h:zx m q l=true) (hp:p≤q):zx m p l=true:=by
 cases l with
 | nil=>rfl
 | cons a l =>
  simp only[zx,yy7,decide_eq_true_eq] at h ⊢
  exact ⟨⟨⟨⟨by omega,h.1.1.1.2⟩,h.1.1.2⟩,h.1.2⟩,h.2⟩
theorem znk {m p w n:Int} {s l:List Power} (hs:s=[]∨(s=[⟨w,n⟩]∧m≤n∧n≤1125899906842624)) (hp:p < w) (hw:w≤5) (hl:zx m w l=true):zx m p (s++l)=true:=by
 rcases hs with rfl | ⟨rfl,h1,h2⟩
 ·exact zacl hl (by omega)
 ·simp only[List.cons_append,List.nil_append,zx,yy7,decide_eq_true_eq]
  exact ⟨⟨⟨⟨hp,hw⟩,h1⟩,h2⟩,hl⟩
theorem zzh {w n:Int} (h:n≤1125899906842624):zq5 w n=[]∨(zq5 w n=[⟨w,n⟩]∧(1:Int)≤n∧n≤1125899906842624):=by
 unfold zq5
 by_cases hn:0 < n
 ·rw[if_pos hn];exact .inr ⟨rfl,by omega,h⟩
 ·rw[if_neg hn];exact .inl rfl
theorem zann {f:Nat→Int} (h:∀ v,f v≤1125899906842624):zx 1 (-1) (zec f)=true:=by
 rw[zr0]
 exact znk (zzh (h 0)) (by omega) (by omega) (znk (zzh (h 1)) (by omega) (by omega) (znk (zzh (h 2)) (by omega) (by omega) (znk (zzh (h 3)) (by omega) (by omega)
  (znk (zzh (h 4)) (by omega) (by omega) (znk (zzh (h 5)) (by omega) (by omega) rfl)))))
abbrev zd3 (L:Links) (c:Int):zi6:=⟨L.Said.get c,L.Due.get c,L.Got.get c,L.Closed.get c⟩
def z9u (p:zb) (c:Int):Bool := !(p.Links.On.get c&&p.Links.Gone.get c)&&decide (0≤p.Links.Base.get c)&&decide (p.Links.Base.get c≤p.Height)&&zx 1 (-1) (p.Links.Told.get c)&&decide (zcb (zd3 p.Links c))&&zat (-1) (p.Links.Done.get c)
def zu3 (p:zb) (a:Asked):Bool:=decide (0≤a.C)&&decide (a.C < 2)&&p.Links.On.get a.C&&(zcs a.P==0) && !(a.P.Kind==1)
def zz7 (p:zb):Prop:=0≤p.Height∧p.Height < 1099511627776∧0≤p.Time∧p.Time≤1099511627776
instance (p:zb):Decidable (zz7 p):=inferInstanceAs (Decidable (_∧_))
def zaa (p:zb):Bool:=decide (GoodS p.Stake)&&decide (zz7 p)&&zx 1 (-1) p.Set&&z9u p 0&&z9u p 1&&p.Queue.all (zu3 p)
structure FitPr (R:Nat) (p:zb):Prop where
 waits:p.Stake.Waits.length*64≤R
 set:p.Set.length*16≤R
 told:∀ c,(p.Links.Told.get c).length*16≤R
 done:∀ c,(p.Links.Done.get c).length*8≤R
 said:∀ c,(p.Links.Said.get c).length*16≤R
 due:∀ c,(p.Links.Due.get c).length*8≤R
 queue:p.Queue.length*88≤R
 ps:∀ a,a∈p.Queue→a.P.Set.length*16≤R∧a.P.Done.length*8≤R
theorem FitPr.mono {R S:Nat} {p:zb} (h:FitPr R p) (hr:R≤S):FitPr S p :=
 ⟨Nat.le_trans h.waits hr,Nat.le_trans h.set hr,fun c=>Nat.le_trans (h.told c) hr,fun c=>Nat.le_trans (h.done c) hr,fun c=>Nat.le_trans (h.said c) hr,fun c=>Nat.le_trans (h.due c) hr,Nat.le_trans h.queue hr,
  fun a ha=>⟨Nat.le_trans (h.ps a ha).1 hr,Nat.le_trans (h.ps a ha).2 hr⟩⟩
theorem zajx {L:Links} {c:Int} {p:zb} {k:Link} {l:List Int} (hp:k.Done=l) (hl:l.length≤9223372036854775807) :
  ∃ r,zn8 L c l l.length 0 p k=some r∧(match r with | .inl b=>b=false∧zat (-1) l=false | .inr x=>x=(L,c,p)∧zat (-1) l=true):=by
 have:=zrg (F:=fun s:Links×Int×(List Int)×Int×Int×zb×Link=>(zgd s.1 s.2.1 s.2.2.1 s.2.2.2.1 s.2.2.2.2.1 s.2.2.2.2.2.1 s.2.2.2.2.2.2).run)
  (fun s=>s.1=L∧s.2.1=c∧s.2.2.1=l∧s.2.2.2.1=l.length∧0≤s.2.2.2.2.1∧s.2.2.2.2.1≤l.length∧s.2.2.2.2.2.1=p∧s.2.2.2.2.2.2=k∧(0 < s.2.2.2.2.1→0≤zna l s.2.2.2.2.1)) (fun s=>l.length - s.2.2.2.2.1.toNat)
  (fun s r=>match r with | .inl b=>b=false∧zat (zna l s.2.2.2.2.1) (l.drop s.2.2.2.2.1.toNat)=false | .inr x=>x=(L,c,p)∧zat (zna l s.2.2.2.2.1) (l.drop s.2.2.2.2.1.toNat)=true) ?_ (L,c,l,(l.length:Int),0,p,k) ⟨rfl,rfl,rfl,rfl,by simp,by simp,rfl,rfl,by simp⟩
 ·exact this
 ·rintro ⟨y0,y1,x0,x1,x2,x3,x4⟩ ⟨g1,g2,h1,h2,h3,h4,h5,g3,h6⟩
  simp only at g1 g2 g3 h1 h2 h3 h4 h5 h6
  rw[g1,g2,g3,h1,h2,h5] at *
  simp only[zgd,hp]
  by_cases hc:x2 < l.length
  ·have hs:=zau (l:=l) (k:=x2.toNat) (by omega) 0
   rw[Tr.rt (by simpa using hc),Tr.rg ⟨h3,hc⟩,Tr.rg (by
    intro h _
    simp only[decide_eq_true_eq] at h
    rw[zj (x:=x2 - 1) (by omega) (by omega)]
    exact ⟨⟨by omega,by simp only[Sl.len];omega⟩,trivial⟩)]
   rw[hs]
   have hp:(decide (x2 > 0)&&decide (l.getD (i64.wrap (x2 - 1)).toNat 0≥l.getD x2.toNat 0))=(decide (x2 > 0)&&decide (zna l x2≥l.getD x2.toNat 0)):=by
    by_cases h0:x2 > 0
    ·rw[zj (x:=x2 - 1) (by omega) (by omega)]
     unfold zna
     rw[if_neg (by omega)]
    ·simp[h0]
   rw[hp]
   generalize hq:l.getD x2.toNat 0=q at *
   by_cases hd:zna l x2 < q∧q≤5
   ·obtain ⟨d1,d2⟩:=hd
    have hw:i64.wrap (x2+1)=x2+1:=zj (by omega) (by omega)
    have hpv:zna l (x2+1)=q:=by unfold zna;rw[if_neg (by omega),show x2+1 - 1=x2 by omega,hq]
    have hq0:0≤q:=by
     by_cases h0:x2 > 0
     ·have:=h6 h0;omega
     ·have:zna l x2 = -1:=by unfold zna;rw[if_pos (by omega)]
      omega
    refine .inl ⟨_,by rw[Tr.rf (by simp;omega),Tr.rl,hw],⟨rfl,rfl,rfl,rfl,?_,?_,rfl,rfl,?_⟩,?_,?_⟩
    ·simp only[];omega
    ·simp only[];omega
    ·simp only[];rw[hpv];intro _;omega
    ·simp only[];omega
    ·simp only[]
     rw[hpv,show (x2+1).toNat=x2.toNat+1 by omega]
     intro r hr
     rw[zat,decide_eq_true d1,decide_eq_true d2]
     simpa using hr
   ·refine .inr ⟨_,by rw[Tr.rt (by
     by_cases h0:x2 > 0
     ·have:=h6 h0
      simp[h0];omega
     ·have:zna l x2 = -1:=by unfold zna;rw[if_pos (by omega)]
      simp[h0];omega),Tr.rl],?_⟩
    refine ⟨rfl,?_⟩
    rw[zat]
    simp only[Bool.and_eq_false_iff,yy8]
    omega
  ·refine .inr ⟨_,by rw[Tr.rf (by simpa using hc),Tr.rl],?_⟩
   refine ⟨rfl,?_⟩
   rw[List.drop_eq_nil_of_le (by omega)];rfl
theorem zano {l:List Power} (hl:l.length≤9223372036854775807) :
  ∃ r,zpd l l l.length 0=some r∧(match r with | .inl b=>b=false∧zx 1 (-1) l=false | .inr x=>zx 1 (-1) l=true):=by
 have:=zrg (F:=fun s:(List Power)×(List Power)×Int×Int=>(zg6 s.1 s.2.1 s.2.2.1 s.2.2.2).run)
  (fun s=>s.1=l∧s.2.1=l∧s.2.2.1=l.length∧0≤s.2.2.2∧s.2.2.2≤l.length ∧ -1≤zgg l s.2.2.2∧(0 < s.2.2.2→0≤zgg l s.2.2.2)) (fun s=>l.length - s.2.2.2.toNat)
  (fun s r=>match r with | .inl b=>b=false∧zx 1 (zgg l s.2.2.2) (l.drop s.2.2.2.toNat)=false | .inr x=>zx 1 (zgg l s.2.2.2) (l.drop s.2.2.2.toNat)=true) ?_ (l,l,(l.length:Int),0) ⟨rfl,rfl,rfl,by simp,by simp,by simp[zgg],by simp⟩
 ·exact this
 ·rintro ⟨y0,x0,x1,x2⟩ ⟨g1,h1,h2,h3,h4,h6,h7⟩
  simp only at g1 h1 h2 h3 h4 h6 h7
  rw[g1,h1,h2] at *
  simp only[zg6]
  by_cases hc:x2 < l.length
  ·have hs:=zau (l:=l) (k:=x2.toNat) (by omega) default
   rw[Tr.rt (by simpa using hc),Tr.rg ⟨h3,hc⟩,Tr.rg (by
    intro h _
    simp only[decide_eq_true_eq] at h
    rw[zj (x:=x2 - 1) (by omega) (by omega)]
    exact ⟨⟨by omega,by simp only[Sl.len];omega⟩,trivial⟩)]
   rw[hs]
   have hp:(decide (x2 > 0)&&decide ((l.getD (i64.wrap (x2 - 1)).toNat default).V≥(l.getD x2.toNat default).V))=(decide (x2 > 0)&&decide (zgg l x2≥(l.getD x2.toNat default).V)):=by
    by_cases h0:x2 > 0
    ·rw[zj (x:=x2 - 1) (by omega) (by omega)]
     unfold zgg
     rw[if_neg (by omega)]
    ·simp[h0]
   rw[hp]
   generalize hq:l.getD x2.toNat default=q at *
   by_cases hd:zgg l x2 < q.V∧q.V≤5∧1≤q.N∧q.N≤1125899906842624
   ·obtain ⟨d1,d2,d3,d4⟩:=hd
    have hw:i64.wrap (x2+1)=x2+1:=zj (by omega) (by omega)
    have hpv:zgg l (x2+1)=q.V:=by unfold zgg;rw[if_neg (by omega),show x2+1 - 1=x2 by omega,hq]
    refine .inl ⟨_,by rw[Tr.rf (by simp;omega),Tr.rl,hw],⟨rfl,rfl,rfl,?_,?_,?_,?_⟩,?_,?_⟩
    ·simp only[];omega
    ·simp only[];omega
    ·simp only[];rw[hpv];omega
    ·simp only[];rw[hpv];intro _;omega
    ·simp only[];omega
    ·simp only[]
     rw[hpv,show (x2+1).toNat=x2.toNat+1 by omega]
     intro r hr
     rw[zx,decide_eq_true d1,decide_eq_true d2,decide_eq_true d3,decide_eq_true d4]
     simpa using hr
   ·refine .inr ⟨_,by rw[Tr.rt (by
     by_cases h0:x2 > 0
     ·have:=h7 h0
      simp[h0];omega
     ·have:zgg l x2 = -1:=by unfold zgg;rw[if_pos (by omega)]
      simp[h0];omega),Tr.rl],?_⟩
    refine ⟨rfl,?_⟩
    rw[zx]
    simp only[Bool.and_eq_false_iff,yy8]
    omega
  ·refine .inr ⟨_,by rw[Tr.rf (by simpa using hc),Tr.rl],?_⟩
   rw[List.drop_eq_nil_of_le (by omega)];rfl
theorem zuq {l:List Power} (hl:l.length≤9223372036854775807):zdd l=some (zx 1 (-1) l):=by
 obtain ⟨r,h1,h2⟩:=zano hl
 rw[zdd,zp2]
 cases r with
 | inl b=>rw[Tr.ri h1,Tr.rl,h2.1,h2.2]
 | inr x=>rw[Tr.rj h1,Tr.rl,h2]
theorem zawx {p:zb} {a:Asked} (h:a.P.Set.length*16≤140737488351232∧a.P.Done.length*8≤140737488351232):zj1 a p=some (!zu3 p a,p):=by
 rw[zj1,zkw,Tr.rg (by
  intro h0
  simp only[Bool.or_eq_false_iff,yy8] at h0
  exact ⟨⟨by omega,by omega⟩,trivial⟩),Tr.rg (fun _=>⟨by rw[zx6 h.1 h.2];rfl,trivial⟩),Tr.rl,zx6 h.1 h.2]
 congr 2
 unfold zu3
 simp only[yy2]
 have e1:decide (a.C < 0) = !decide (0≤a.C):=by rw[← decide_not];congr 1;exact propext ⟨fun h=>by omega,fun h=>by omega⟩
 have e2:decide (a.C≥2) = !decide (a.C < 2):=by rw[← decide_not];congr 1;exact propext ⟨fun h=>by omega,fun h=>by omega⟩
 rw[e1,e2]
 simp only[Bool.not_and,Bool.not_not]
 rfl
theorem zasb {l:List Asked} {p:zb} (hl:l.length≤9223372036854775807) (hp:∀ a,a∈l→a.P.Set.length*16≤140737488351232∧a.P.Done.length*8≤140737488351232) :
  zb7 l p=some (!l.all (zu3 p),p):=by
 obtain ⟨r,h1,h2⟩:=zfy (F:=fun s:(List Asked)×Int×Int×zb=>(zae s.1 s.2.1 s.2.2.1 s.2.2.2).run) l.length
  (fun i (_:Unit)=>(l,(l.length:Int),(i:Int),p)) (fun i _=>True) (fun i _ r=>match r with | .inl k=>(0≤k.1∧k.2=p)∧(l.drop i).all (zu3 p)=false | .inr q=>q=p∧(l.drop i).all (zu3 p)=true) (by
   intro t _
   refine ⟨.inr p,?_,rfl,?_⟩
   ·simp only[zae];rw[Tr.rf (by simp),Tr.rl]
   ·rw[List.drop_length];rfl) (by
   intro i t hi _
   have hs:=zau (l:=l) (k:=i) hi default
   have hm:=zfl (l:=l) (k:=i) hi default
   simp only[zae,yy4]
   rw[Tr.rt (by simpa using hi),Tr.rg ⟨by omega,by show (i:Int) < (l.length:Nat);omega⟩,Tr.rb (zawx (hp _ hm)),hs]
   simp only[List.all_cons]
   obtain ⟨b,hb⟩:∃ b,b=zu3 p (l.getD i default):=⟨_,rfl⟩
   rw[← hb]
   cases b with
   | true =>
    refine .inl ⟨(),?_,trivial,?_⟩
    ·rw[Tr.rf (show (!true)=false from rfl),Tr.rl,zy (by omega)]
    ·intro r hr
     cases r with
     | inl x=>exact ⟨hr.1,by rw[hr.2];rfl⟩
     | inr x=>rw[Bool.true_and];exact hr
   | false =>
    refine .inr ⟨.inl (i,p),?_,⟨by simp only[];omega,rfl⟩,by rfl⟩
    rw[Tr.rt (show (!false)=true from rfl),Tr.rl]) 0 () (by omega) trivial
 have h1:zdo l l.length 0 p=some r:=h1
 rw[zb7,zcf]
 cases r with
 | inl k =>
  simp only[List.drop_zero] at h2
  rw[Tr.rb (v:=k) (by rw[zce,zbd,Tr.ri h1,Tr.rl]),Tr.rl,h2.2,h2.1.2]
  simp[h2.1.1]
 | inr k =>
  simp only[List.drop_zero] at h2
  rw[Tr.rb (v:=(-1,k)) (by rw[zce,zbd,Tr.rj h1,Tr.rl]),Tr.rl,h2.2,h2.1]
  rfl
theorem za2l (x y b c d e:Bool):(((((x&&y) || !b) || !c) || !d) || !e) = !(!(x&&y)&&b&&c&&d&&e):=by
 cases x<;>cases y<;>cases b<;>cases c<;>cases d<;>cases e<;>rfl
theorem z9v {p:zb} (hf:FitPr 140737488351232 p) {c:Nat} (hc:c < 2) :
  (zcw p.Links c p).run=some (if z9u p c=true then .inl (p.Links,((c+1:Nat):Int),p) else .inr (.inl false)):=by
 simp only[zcw]
 have ht:=hf.told c
 have hd:=hf.done c
 rw[Tr.rt (by simp;omega),Tr.rg ⟨by omega,by omega⟩,Tr.rg (fun _=>⟨by rw[zuq (by omega)];rfl,trivial⟩),Tr.rg (fun _=>⟨by rw[zza];rfl,trivial⟩),zuq (by omega),zza]
 simp only[yy2]
 have e:((((((p.Links.On.get (c:Int))&&(p.Links.Gone.get (c:Int)))||(decide ((p.Links.Base.get (c:Int)) < 0)))||(decide ((p.Links.Base.get (c:Int)) > p.Height)))||(!zx 1 (-1) (p.Links.Told.get (c:Int))))||(!decide (zcb (zd3 p.Links c)))) =
   !(!(p.Links.On.get (c:Int)&&p.Links.Gone.get (c:Int))&&decide (0≤p.Links.Base.get (c:Int))&&decide (p.Links.Base.get (c:Int)≤p.Height)&&zx 1 (-1) (p.Links.Told.get (c:Int))&&decide (zcb (zd3 p.Links c))):=by
  have e1:decide (p.Links.Base.get (c:Int) < 0) = !decide (0≤p.Links.Base.get (c:Int)):=by rw[← decide_not];congr 1;exact propext ⟨fun h=>by omega,fun h=>by omega⟩
  have e2:decide (p.Links.Base.get (c:Int) > p.Height) = !decide (p.Links.Base.get (c:Int)≤p.Height):=by rw[← decide_not];congr 1;exact propext ⟨fun h=>by omega,fun h=>by omega⟩
  rw[e1,e2]
  exact za2l _ _ _ _ _ _
 rw[show zd3 p.Links (c:Int)=(⟨p.Links.Said.get (c:Int),p.Links.Due.get (c:Int),p.Links.Got.get (c:Int),p.Links.Closed.get (c:Int)⟩:zi6) from rfl] at e
 rw[e]
 unfold z9u
 rw[show zd3 p.Links (c:Int)=(⟨p.Links.Said.get (c:Int),p.Links.Due.get (c:Int),p.Links.Got.get (c:Int),p.Links.Closed.get (c:Int)⟩:zi6) from rfl]
 generalize (!(p.Links.On.get (c:Int)&&p.Links.Gone.get (c:Int))&&decide (0≤p.Links.Base.get (c:Int))&&decide (p.Links.Base.get (c:Int)≤p.Height)&&zx 1 (-1) (p.Links.Told.get (c:Int))&&decide (zcb (⟨p.Links.Said.get (c:Int),p.Links.Due.get (c:Int),p.Links.Got.get (c:Int),p.Links.Closed.get (c:Int)⟩:zi6)))=b
 cases b with
 | false=>rw[Tr.rt (show (!false)=true from rfl),Tr.rl];rfl
 | true =>
  rw[Tr.rf (show (!true)=false from rfl)]
  obtain ⟨r,h1,h2⟩:=zajx (L:=p.Links) (c:=(c:Int)) (p:=p) (k:=⟨p.Links.On.get c,p.Links.Gone.get c,p.Links.Base.get c,p.Links.Told.get c,p.Links.Fresh.get c,p.Links.Done.get c,⟨p.Links.Said.get c,p.Links.Due.get c,p.Links.Got.get c,p.Links.Closed.get c⟩,⟨p.Links.SHeight.get c,p.Links.STime.get c,p.Links.SSaid.get c,p.Links.SGot.get c⟩⟩)
   (l:=p.Links.Done.get c) rfl (by omega)
  cases r with
  | inl b=>rw[Tr.ri h1,Tr.rl,h2.1,h2.2];rfl
  | inr x=>rw[Tr.rj h1,Tr.rl,h2.1,h2.2,zy (by omega)];rfl
theorem zi3 {p:zb} (hf:FitPr 140737488351232 p):zbl p=some (zaa p):=by
 have hs:=hf.set
 have hq:=hf.queue
 have loop:zix p.Links 0 p=some (if z9u p 0=true then (if z9u p 1=true then .inr p else .inl false) else .inl false):=by
  rw[zix]
  have t0:=z9v hf (c:=0) (by omega)
  have t1:=z9v hf (c:=1) (by omega)
  simp only[Int.ofNat_zero,Nat.zero_add,Int.ofNat_one] at t0 t1
  by_cases h0:z9u p 0=true
  ·rw[if_pos h0] at t0 ⊢
   rw[zca (s':=(p.Links,((1:Nat):Int),p)) t0]
   by_cases h1:z9u p 1=true
   ·rw[if_pos h1] at t1 ⊢
    rw[zca (s':=(p.Links,((2:Nat):Int),p)) t1,zc3 (r:=.inr p) (by
     show (zcw p.Links 2 p).run=_
     simp only[zcw]
     rw[Tr.rf (by simp),Tr.rl])]
   ·rw[if_neg h1] at t1 ⊢
    rw[zc3 (r:=.inl false) t1]
  ·rw[if_neg h0] at t0 ⊢
   rw[zc3 (r:=.inl false) t0]
 rw[zbl,zn9,Tr.rb (zt7 p.Stake),Tr.rg (fun _=>⟨by rw[zuq (by omega)];rfl,trivial⟩),zuq (by omega)]
 simp only[yy2]
 have e:((((((!decide (GoodS p.Stake))||(decide (p.Height < 0)))||(decide (p.Height≥1099511627776)))||(decide (p.Time < 0)))||(decide (p.Time > 1099511627776)))||(!zx 1 (-1) p.Set)) = !(decide (GoodS p.Stake)&&decide (zz7 p)&&zx 1 (-1) p.Set):=by
  rw[Bool.eq_iff_iff]
  simp only[Bool.or_eq_true,Bool.not_eq_true',yy8,decide_eq_true_eq,Bool.and_eq_false_iff]
  unfold zz7
  constructor
  ·rintro (((((h | h) | h) | h) | h) | h)
   ·exact .inl (.inl h)
   ·exact .inl (.inr (by omega))
   ·exact .inl (.inr (by omega))
   ·exact .inl (.inr (by omega))
   ·exact .inl (.inr (by omega))
   ·exact .inr h
  ·rintro ((h | h) | h)
   ·exact .inl (.inl (.inl (.inl (.inl h))))
   ·rcases (show p.Height < 0∨p.Height≥1099511627776∨p.Time < 0∨p.Time > 1099511627776 by omega) with k | k | k | k
    ·exact .inl (.inl (.inl (.inl (.inr k))))
    ·exact .inl (.inl (.inl (.inr k)))
    ·exact .inl (.inl (.inr k))
    ·exact .inl (.inr k)
   ·exact .inr h
 rw[e]
 unfold zaa
 generalize (decide (GoodS p.Stake)&&decide (zz7 p)&&zx 1 (-1) p.Set)=b
 cases b with
 | false=>rw[Tr.rt (show (!false)=true from rfl),Tr.rl];rfl
 | true =>
  rw[Tr.rf (show (!true)=false from rfl)]
  by_cases h0:z9u p 0=true
  ·rw[if_pos h0] at loop
   by_cases h1:z9u p 1=true
   ·rw[if_pos h1] at loop
    rw[Tr.rj loop,Tr.rb (zasb (by omega) hf.ps),Tr.rl,h0,h1]
    simp
   ·rw[if_neg h1] at loop
    rw[Tr.ri loop,Tr.rl,h0,Bool.eq_false_iff.2 h1]
    rfl
  ·rw[if_neg h0] at loop
   rw[Tr.ri loop,Tr.rl,Bool.eq_false_iff.2 h0]
   rfl
structure za2m (p:zb):Prop where
 waits:p.Stake.Waits.length≤9223372036854775807
 set:p.Set.length≤9223372036854775807
 told:∀ c,(p.Links.Told.get c).length≤9223372036854775807
 done:∀ c,(p.Links.Done.get c).length≤9223372036854775807
 said:∀ c,(p.Links.Said.get c).length≤9223372036854775807
 due:∀ c,(p.Links.Due.get c).length≤9223372036854775807
 queue:p.Queue.length≤9223372036854775807
 ps:∀ a,a∈p.Queue→a.P.Set.length≤9223372036854775807∧a.P.Done.length≤9223372036854775807
theorem FitPr.len {R:Nat} {p:zb} (h:FitPr R p) (hR:R≤9223372036854775807):za2m p :=
 ⟨by have:=h.waits;omega,by have:=h.set;omega,fun c=>by have:=h.told c;omega,fun c=>by have:=h.done c;omega,fun c=>by have:=h.said c;omega,fun c=>by have:=h.due c;omega,by have:=h.queue;omega,
  fun a ha=>by have:=h.ps a ha;omega⟩
theorem zyc {α:Type} {t e:Tr α}:(Tr.ite (!true) t e).run=e.run:=Tr.rf (show (!true)=false from rfl)
theorem zyd {α:Type} {t e:Tr α}:(Tr.ite (!false) t e).run=t.run:=Tr.rt (show (!false)=true from rfl)
def newM (x t:Int):Meter:=⟨if x < 5 then 1 else x / 5,i64.wrap (t+10)⟩
def z4b (m:Meter) (x t:Int):Meter:=if m.Next≤t then newM x t else m
def zzi (m:Meter) (n:Int):Meter×Bool:=if m.Left≤0 then (m,false) else (⟨i64.wrap (m.Left - n),m.Next⟩,true)
theorem zajy {x t:Int} (hx:i6 x):zo7 x t=some (newM x t):=by
 have h:zjm x=some (if x < 5 then 1 else x / 5):=by
  rw[zjm,zkn,Tr.rg (by decide),Tr.rl]
  unfold i6 at hx
  by_cases h5:x < 5
  ·have:Int.tdiv x 5 < 1:=by
    by_cases h0:0≤x
    ·rw[Int.tdiv_eq_ediv_of_nonneg h0];omega
    ·have:Int.tdiv x 5≤0:=by
      have h1:Int.tdiv (-x) 5 = - Int.tdiv x 5:=Int.neg_tdiv x 5
      rw[Int.tdiv_eq_ediv_of_nonneg (by omega)] at h1
      omega
     omega
   have hl : -9223372036854775808≤Int.tdiv x 5:=by
    by_cases h0:0≤x
    ·rw[Int.tdiv_eq_ediv_of_nonneg h0];omega
    ·have h1:Int.tdiv (-x) 5 = - Int.tdiv x 5:=Int.neg_tdiv x 5
     rw[Int.tdiv_eq_ediv_of_nonneg (by omega)] at h1
     omega
   rw[zj (by omega) (by omega),if_neg (by omega),if_pos h5]
  ·rw[Int.tdiv_eq_ediv_of_nonneg (by omega),zj (by omega) (by omega),if_neg h5]
   split
   ·rfl
   ·congr 1;omega
 rw[zo7,zwd,Tr.rb h,Tr.rl];rfl
theorem zaei {m:Meter} {x t:Int} (hx:i6 x):zm6 m x t=some (z4b m x t):=by
 rw[zm6,ztc]
 unfold z4b
 by_cases h:m.Next≤t
 ·rw[Tr.rt (by simpa using h),Tr.rb (zajy hx),Tr.rl,if_pos h]
 ·rw[Tr.rf (by simpa using h),Tr.rl,if_neg h]
theorem zaej {m:Meter} {n:Int}:zg1 m n=some (zzi m n):=by
 rw[zg1,ztd]
 unfold zzi
 by_cases h:m.Left≤0
 ·rw[Tr.rt (by simpa using h),Tr.rl,if_pos h]
 ·rw[Tr.rf (by simpa using h),Tr.rl,if_neg h]
def z9w:zb:=⟨0,0,newS,[],default,newM 0 0,[]⟩
theorem zage:zn7=some z9w:=by
 rw[zn7,zp1,Tr.rb zace,Tr.rb (zajy (by unfold i6;omega)),Tr.rl];rfl
def zcy (p:zb) (d v n:Int):zb×Int :=
 if zaa p=true then (if (zbj p.Stake d v n).2≠0 then (p,(zbj p.Stake d v n).2) else ({ p with Stake:=(zbj p.Stake d v n).1 },0)) else (p,2)
theorem z2y {p:zb} (hf:FitPr 140737488351232 p) {d v n:Int} (hn:n≤9223372036854775807):zhk p d v n=some (zcy p d v n):=by
 rw[zhk,ziy,Tr.rb (zi3 hf)]
 unfold zcy
 by_cases hg:zaa p=true
 ·rw[hg,zyc,if_pos rfl,Tr.rb (zab9 hn)]
  by_cases h0:(zbj p.Stake d v n).2≠0
  ·rw[Tr.rt (by simpa using h0),Tr.rl,if_pos h0]
  ·rw[Tr.rf (by simpa using h0),Tr.rl,if_neg h0]
 ·rw[Bool.eq_false_iff.2 hg,zyd,Tr.rl];rfl
def z0o (p:zb) (now:Int):Wait:=⟨0,0,0,0,p.Height+1,now+20,if p.Links.On.x0=true then p.Height+1 else 0,if p.Links.On.x1=true then p.Height+1 else 0⟩
def z9x (L:Links):Links:={ L with Fresh:=⟨L.Fresh.x0||L.On.x0,L.Fresh.x1||L.On.x1⟩ }
def zcr (p:zb) (d v k now:Int):zb×Int :=
 if zaa p=true∧0≤now∧now≤1099511627776 then
  (if (zbc p.Stake d v k (z0o p now)).2≠0 then (p,(zbc p.Stake d v k (z0o p now)).2) else ({ p with Stake:=(zbc p.Stake d v k (z0o p now)).1,Links:=z9x p.Links },0))
 else (p,2)
theorem zi4 {p:zb} (h:zaa p=true):GoodS p.Stake∧zz7 p∧zx 1 (-1) p.Set=true∧z9u p 0=true∧z9u p 1=true∧p.Queue.all (zu3 p)=true:=by
 unfold zaa at h
 simp only[yy7,decide_eq_true_eq] at h
 exact ⟨h.1.1.1.1.1,h.1.1.1.1.2,h.1.1.1.2,h.1.1.2,h.1.2,h.2⟩
theorem z5e {p:zb} {now:Int}:(((!zaa p)||(decide (now < 0)))||(decide (now > 1099511627776))) = !decide (zaa p=true∧0≤now∧now≤1099511627776):=by
 rw[Bool.eq_iff_iff]
 simp only[Bool.or_eq_true,Bool.not_eq_true',decide_eq_true_eq,yy8]
 cases zaa p<;>simp<;>omega
theorem zzj {p:zb} (hf:FitPr 140737488351232 p) {d v k now:Int} (hk:k≤9223372036854775807):zbe p d v k now=some (zcr p d v k now):=by
 rw[zbe,zgo,Tr.rb (zi3 hf)]
 unfold zcr
 by_cases hg:zaa p=true∧0≤now∧now≤1099511627776
 ·rw[if_pos hg]
  obtain ⟨g1,g2,-⟩:=zi4 hg.1
  unfold zz7 at g2
  have turn:∀ (c:Nat),c < 2→∀ (q:zb) (w:Wait),(za4 d v k c p q w).run=some (.inl (d,v,k,((c+1:Nat):Int),p,q,if p.Links.On.get c=true then { w with h0:=if (c:Int)=0 then p.Height+1 else w.h0,h1:=if (c:Int)=1 then p.Height+1 else w.h1 } else w)):=by
   intro c hc q w
   simp only[za4]
   rw[Tr.rt (by simp;omega),Tr.rg ⟨by omega,by omega⟩]
   by_cases ho:p.Links.On.get c=true
   ·rw[Tr.rt ho,Tr.rg ⟨by omega,by omega⟩,Tr.rl,zy (by omega),if_pos ho,zj (by omega) (by omega)]
   ·rw[Tr.rf (Bool.eq_false_iff.2 ho),Tr.rl,zy (by omega),if_neg ho]
  have hw:zd9 d v k 0 p default ⟨0,0,0,0,p.Height+1,now+20,0,0⟩=some (d,v,k,p,default,z0o p now):=by
   rw[zd9,zca (s':=(d,v,k,((1:Nat):Int),p,_,_)) (turn 0 (by omega) _ _),zca (s':=(d,v,k,((2:Nat):Int),p,_,_)) (turn 1 (by omega) _ _),zc3 (by
    show (za4 d v k 2 p _ _).run=_
    simp only[za4]
    rw[Tr.rf (by simp),Tr.rl])]
   have e0:p.Links.On.get ((0:Nat):Int)=p.Links.On.x0:=rfl
   have e1:p.Links.On.get ((1:Nat):Int)=p.Links.On.x1:=rfl
   rw[e0,e1]
   unfold z0o
   cases p.Links.On.x0<;>cases p.Links.On.x1<;>rfl
  rw[Tr.rf (by rw[z5e,decide_eq_true hg];rfl),zj (x:=p.Height+1) (by omega) (by omega),zj (x:=now+20) (by omega) (by omega),Tr.rb hw]
  simp only[]
  rw[Tr.rb (z7g hk)]
  by_cases h0:(zbc p.Stake d v k (z0o p now)).2≠0
  ·rw[Tr.rt (by simpa using h0),Tr.rl,if_pos h0]
  ·rw[Tr.rf (by simpa using h0),if_neg h0]
   have turn2:∀ (c:Nat),c < 2→∀ (p q:zb),(za5 c p q).run=some (.inl (((c+1:Nat):Int),{ p with Links:={ p.Links with Fresh:=p.Links.Fresh.set c (p.Links.Fresh.get c||p.Links.On.get c) } },q)):=by
    intro c hc p q
    simp only[za5]
    rw[Tr.rt (by simp;omega),Tr.rg ⟨by omega,by omega⟩,Tr.rg (fun _=>⟨⟨by omega,by omega⟩,trivial⟩),Tr.rg ⟨by omega,by omega⟩,Tr.rl,zy (by omega)]
   rw[Tr.rb (v:=({ p with Stake:=(zbc p.Stake d v k (z0o p now)).1,Links:=z9x p.Links },default)) (by
    rw[zia,zca (s':=(((1:Nat):Int),_,_)) (turn2 0 (by omega) _ _),zca (s':=(((2:Nat):Int),_,_)) (turn2 1 (by omega) _ _),zc3 (by
     show (za5 2 _ _).run=_
     simp only[za5]
     rw[Tr.rf (by simp),Tr.rl])]
    rfl),Tr.rl]
 ·rw[if_neg hg,Tr.rt (by rw[z5e,decide_eq_false hg];rfl),Tr.rl]
theorem zye:∀ {l:List Int} {p:Int},zat p l=true→(∀ q,q∈l→p < q∧q≤5)∧l.Pairwise (· < ·)
 | [],p,h=>⟨by simp,.nil⟩
 | q::l,p,h=>by
  simp only[zat,yy7,decide_eq_true_eq] at h
  obtain ⟨h1,h2⟩:=zye h.2
  refine ⟨fun x hx=>?_,List.pairwise_cons.2 ⟨fun x hx=>(h1 x hx).1,h2⟩⟩
  rcases List.mem_cons.1 hx with rfl | hx
  ·exact h.1
  ·have:=h1 x hx;omega
theorem z9y:∀ {l:List Int} {p:Int},(∀ q,q∈l→p < q∧q≤5)→l.Pairwise (· < ·)→zat p l=true
 | [],p,_,_=>rfl
 | q::l,p,h1,h2=>by
  have hq:=h1 q (List.mem_cons_self ..)
  rw[List.pairwise_cons] at h2
  simp only[zat,yy7,decide_eq_true_eq]
  exact ⟨hq,z9y (fun x hx=>⟨h2.1 x hx,(h1 x (List.mem_cons_of_mem _ hx)).2⟩) h2.2⟩
theorem zacm:∀ {l m:List Int},l.Pairwise (· < ·)→m.Pairwise (· < ·)→(∀ p,p∈l↔p∈m)→l=m
 | [],[],_,_,_=>rfl
 | [],b::m,_,_,h=>by have:=(h b).2 (List.mem_cons_self ..);cases this
 | a::l,[],_,_,h=>by have:=(h a).1 (List.mem_cons_self ..);cases this
 | a::l,b::m,hl,hm,h=>by
  rw[List.pairwise_cons] at hl hm
  have hab:a=b:=by
   rcases List.mem_cons.1 ((h a).1 (List.mem_cons_self ..)) with h1 | h1
   ·exact h1
   ·rcases List.mem_cons.1 ((h b).2 (List.mem_cons_self ..)) with h2 | h2
    ·exact h2.symm
    ·have k1:=hm.1 a h1
     have k2:=hl.1 b h2
     omega
  subst hab
  congr 1
  refine zacm hl.2 hm.2 fun p=>⟨fun hp=>?_,fun hp=>?_⟩
  ·rcases List.mem_cons.1 ((h p).1 (List.mem_cons_of_mem _ hp)) with h1 | h1
   ·have:=hl.1 p hp;omega
   ·exact h1
  ·rcases List.mem_cons.1 ((h p).2 (List.mem_cons_of_mem _ hp)) with h1 | h1
   ·have:=hm.1 p hp;omega
   ·exact h1
theorem zasc (a b:Int):zof a b=some (decide (a < b)):=by
 have h:∀ x,zfv x=some false:=fun x=>by rw[zfv,zoe,Tr.rl];simp
 rw[zof,zp3,Tr.rb (h a),Tr.rg (fun e=>by cases e),Tr.rl]
 simp
theorem zaek (x:Int):zbn x=some false:=by rw[zbn,zj2,Tr.rl];simp
theorem zacn {l:List Int} (h:l.Pairwise (· < ·)) {x y:Nat} (hxy:x < y) (hy:y < l.length):l.getD x 0 < l.getD y 0:=by
 have:=List.pairwise_iff_getElem.1 h x y (by omega) hy hxy
 rw[yy0,yy0,yy3 hy,yy3 (show x < l.length by omega)]
 exact this
def z9z (l:List Int) (v k:Int):Prop:=0≤k∧k≤l.length∧(∀ x:Nat,(x:Int) < k→l.getD x 0 < v)∧(∀ x:Nat,k≤x→x < l.length→v≤l.getD x 0)
theorem zajz {l:List Int} (hs:l.Pairwise (· < ·)) (hl:l.length≤1000) (v:Int) :
  ∃ k,zfw l v l.length 0 l.length=some (l,v,(l.length:Int),k)∧z9z l v k:=by
 have:=zrg (F:=fun s:(List Int)×Int×Int×Int×Int=>(zbq s.1 s.2.1 s.2.2.1 s.2.2.2.1 s.2.2.2.2).run)
  (fun s=>s.1=l∧s.2.1=v∧s.2.2.1=l.length∧(0≤s.2.2.2.1∧s.2.2.2.1≤s.2.2.2.2∧s.2.2.2.2≤l.length)∧(∀ x:Nat,(x:Int) < s.2.2.2.1→l.getD x 0 < v)∧(∀ x:Nat,s.2.2.2.2≤x→x < l.length→v≤l.getD x 0))
  (fun s=>(s.2.2.2.2 - s.2.2.2.1).toNat) (fun s r=>∃ k,r=(l,v,(l.length:Int),k)∧z9z l v k) ?_ (l,v,(l.length:Int),0,(l.length:Int)) ⟨rfl,rfl,rfl,⟨by simp,by simp,by simp⟩,by intro x hx;simp only[] at hx;omega,by intro x hx h2;simp only[] at hx;omega⟩
 ·obtain ⟨r,h1,k,rfl,h3⟩:=this
  exact ⟨k,h1,h3⟩
 ·rintro ⟨x0,x1,x2,i,j⟩ ⟨h1,h2,h3,⟨h4,h5,h6⟩,h7,h8⟩
  simp only at h1 h2 h3 h4 h5 h6 h7 h8
  rw[h1,h2,h3] at *
  simp only[zbq]
  by_cases hc:i < j
  ·have hm:i64.wrap (Int.fdiv (u64.wrap (i64.wrap (i+j))) (2 ^ 1))=(i+j) / 2:=by
    rw[zj (x:=i+j) (by omega) (by omega),zaiw (by omega) (by omega),Int.fdiv_eq_ediv_of_nonneg _ (by decide),zj (by omega) (by omega)]
    rfl
   rw[hm]
   generalize hmm:(i+j) / 2=m
   have m1:i≤m:=by omega
   have m2:m < j:=by omega
   rw[Tr.rt (by simpa using hc),Tr.rg (by decide),Tr.rg ⟨by omega,by show m < (l.length:Nat);omega⟩,Tr.rb (zasc _ _)]
   by_cases hlt:l.getD m.toNat 0 < v
   ·refine .inl ⟨(l,v,(l.length:Int),m+1,j),by rw[Tr.rt (by simpa using hlt),Tr.rl,zj (by omega) (by omega)],⟨rfl,rfl,rfl,⟨by simp only[];omega,by simp only[];omega,by simp only[];omega⟩,?_,h8⟩,by simp only[];omega,fun r hr=>hr⟩
    intro x hx
    simp only[] at hx
    by_cases hxm:x=m.toNat
    ·rw[hxm];exact hlt
    ·have:=zacn hs (x:=x) (y:=m.toNat) (by omega) (by omega)
     omega
   ·refine .inl ⟨(l,v,(l.length:Int),i,m),by rw[Tr.rf (by simpa using hlt),Tr.rl],⟨rfl,rfl,rfl,⟨by simp only[];omega,by simp only[];omega,by simp only[];omega⟩,h7,?_⟩,by simp only[];omega,fun r hr=>hr⟩
    intro x hx hx2
    simp only[] at hx
    by_cases hxm:x=m.toNat
    ·rw[hxm];omega
    ·have:=zacn hs (x:=m.toNat) (y:=x) (by omega) hx2
     omega
  ·refine .inr ⟨(l,v,(l.length:Int),i),by rw[Tr.rf (by simpa using hc),Tr.rl],i,rfl,h4,by omega,h7,fun x hx=>h8 x (by omega)⟩
theorem zaj0 {l:List Int} (hs:l.Pairwise (· < ·)) (hl:l.length≤1000) (v:Int):∃ k,zu l v=some (k,decide (v∈l))∧z9z l v k:=by
 obtain ⟨k,h1,h2⟩:=zajz hs hl v
 refine ⟨k,?_,h2⟩
 obtain ⟨k0,k1,k2,k3⟩:=h2
 have hin:decide (k < (l.length:Int))=true→(0:Int)≤k∧k < ((Sl.len (.ints l):Nat):Int):=fun h=>⟨k0,by simpa[Sl.len] using h⟩
 rw[zu,zea,Tr.rb h1]
 simp only[]
 rw[Tr.rg (fun h=>⟨hin h,trivial⟩),Tr.rg (fun _ h=>⟨hin h,trivial⟩),Tr.rg (fun _ _=>⟨by rw[zaek];rfl,trivial⟩),Tr.rg (fun _ _ _=>⟨by rw[zaek];rfl,trivial⟩),Tr.rl,zaek,zaek]
 simp only[yy2,Bool.and_false,Bool.or_false]
 congr 2
 rw[Bool.eq_iff_iff]
 simp only[yy7,decide_eq_true_eq,beq_iff_eq]
 constructor
 ·rintro ⟨hk,he⟩
  rw[← he]
  exact zfl (by omega) 0
 ·intro hv
  obtain ⟨x,hx,he⟩:=List.getElem_of_mem hv
  have hg:l.getD x 0=v:=by rw[yy0,yy3 hx];exact he
  have hkx:k≤x:=by
   rcases Int.lt_or_le (x:Int) k with h | h
   ·have:=k2 x h;omega
   ·exact h
  refine ⟨by omega,?_⟩
  have h3:=k3 k.toNat (by omega) (by omega)
  by_cases hxk:x=k.toNat
  ·rw[← hxk];exact hg
  ·have:=zacn hs (x:=k.toNat) (y:=x) (by omega) hx
   omega
def insD (l:List Int) (v:Int):List Int:=((List.range 6).map (fun (u:Nat)=>(u:Int))).filter (fun u=>u==v||decide (u∈l))
theorem range_pw:((List.range 6).map (fun (u:Nat)=>(u:Int))).Pairwise (· < ·):=by decide
theorem zaco (l:List Int) (v:Int):(insD l v).Pairwise (· < ·):=range_pw.sublist List.filter_sublist
theorem zagf {u:Int}:u∈(List.range 6).map (fun (u:Nat)=>(u:Int))↔0≤u∧u≤5:=by
 rw[List.mem_map]
 constructor
 ·rintro ⟨x,hx,rfl⟩;rw[List.mem_range] at hx;omega
 ·intro h;exact ⟨u.toNat,by rw[List.mem_range];omega,by omega⟩
theorem mem_insD {l:List Int} {v u:Int}:u∈insD l v↔(0≤u∧u≤5)∧(u=v∨u∈l):=by
 unfold insD;rw[List.mem_filter,zagf];simp
theorem zaj2 (l:List Int) (v:Int):zat (-1) (insD l v)=true:=z9y (fun q hq=>by have:=(mem_insD.1 hq).1;omega) (zaco l v)
theorem zasd {l:List Int} {v:Int} (h:zat (-1) l=true) (hv:v∈l):insD l v=l:=by
 obtain ⟨h1,h2⟩:=zye h
 refine zacm (zaco l v) h2 fun u=>?_
 rw[mem_insD]
 constructor
 ·rintro ⟨_,rfl | h⟩<;>assumption
 ·intro hu;have:=h1 u hu;exact ⟨by omega,.inr hu⟩
theorem zanp {l:List Int} {v k:Int} (h:zat (-1) l=true) (hv:v∉l) (hv5:0≤v∧v≤5) (hk:z9z l v k):l.take k.toNat++[v]++l.drop k.toNat=insD l v:=by
 obtain ⟨h1,h2⟩:=zye h
 obtain ⟨k0,k1,k2,k3⟩:=hk
 have htake:∀ x,x∈l.take k.toNat→x < v:=by
  intro x hx
  obtain ⟨i,hi,rfl⟩:=List.getElem_of_mem hx
  rw[List.length_take] at hi
  have:=k2 i (by omega)
  rw[yy0,yy3 (by omega)] at this
  rw[List.getElem_take];exact this
 have hdrop:∀ x,x∈l.drop k.toNat→v < x:=by
  intro x hx
  have hm:x∈l:=List.mem_of_mem_drop hx
  obtain ⟨i,hi,rfl⟩:=List.getElem_of_mem hx
  rw[List.length_drop] at hi
  have:=k3 (k.toNat+i) (by omega) (by omega)
  rw[yy0,yy3 (by omega)] at this
  rw[List.getElem_drop] at hm ⊢
  have hne:l[k.toNat+i]≠v:=fun e=>hv (e ▸ hm)
  have h3:v≤l[k.toNat+i]:=this
  omega
 refine zacm ?_ (zaco l v) fun u=>?_
 ·rw[List.append_assoc,List.pairwise_append]
  refine ⟨h2.sublist (List.take_sublist _ _),?_,?_⟩
  ·rw[List.singleton_append,List.pairwise_cons]
   exact ⟨hdrop,h2.sublist (List.drop_sublist _ _)⟩
  ·intro a ha b hb
   rw[List.singleton_append] at hb
   rcases List.mem_cons.1 hb with rfl | hb
   ·exact htake a ha
   ·have:=htake a ha;have:=hdrop b hb;omega
 ·rw[mem_insD,List.append_assoc,List.mem_append,List.singleton_append,List.mem_cons]
  constructor
  ·rintro (hu | rfl | hu)
   ·have hm:=List.mem_of_mem_take hu
    have:=h1 u hm
    exact ⟨by omega,.inr hm⟩
   ·exact ⟨hv5,.inl rfl⟩
   ·have hm:=List.mem_of_mem_drop hu
    have:=h1 u hm
    exact ⟨by omega,.inr hm⟩
  ·rintro ⟨_,rfl | hu⟩
   ·exact .inr (.inl rfl)
   ·rw[← List.take_append_drop k.toNat l,List.mem_append] at hu
    exact hu.imp id .inr
def zsb (p:zb) (v:Int):Int:=if (i64.wrap (Int.tdiv (p.Stake.Validators.Tokens.get v) 100)) > 1 then (i64.wrap (Int.tdiv (p.Stake.Validators.Tokens.get v) 100)) else 1
def zagg (p:zb) (c v:Int):zb:={ p with Links:={ p.Links with Done:=p.Links.Done.set c (insD (p.Links.Done.get c) v) } }
def zase (p:zb) (a:Asked):Int:=if (p.Links.Base.get a.C) > a.P.Id then (p.Links.Base.get a.C) else a.P.Id
def zg9 (p:zb) (a:Asked):zb×Bool :=
 if a.P.Kind=2 then ({ p with Stake:=zim p.Stake a.C a.P.Id },true)
 else if a.P.Kind=4 then (if p.Stake.Validators.Dead.get a.P.V=true then (p,true) else ({ p with Stake:=(za8 (zef p.Stake a.P.V (zase p a) 50).1 a.P.V 2).1 },true))
 else if p.Stake.Validators.Jailed.get a.P.V=true then (zagg p a.C a.P.V,true)
 else if (zzi p.Meter (zsb p a.P.V)).2=true then (zagg { p with Stake:=(za8 p.Stake a.P.V 0).1,Meter:=(zzi p.Meter (zsb p a.P.V)).1 } a.C a.P.V,true)
 else (p,false)
structure zaj3 (p:zb) (a:Asked):Prop where
 v:0≤a.P.V∧a.P.V≤5
 c:0≤a.C∧a.C < 2
 k:a.P.Kind=2∨a.P.Kind=3∨a.P.Kind=4
 w:p.Stake.Waits.length*64≤140737488351232
 d:zat (-1) (p.Links.Done.get a.C)=true
theorem zos {α:Type} (a:A2 α) {c:Int} (hc:0≤c∧c < 2):a.set c (a.get c)=a:=by
 rcases (show c=0∨c=1 by omega) with rfl | rfl<;>rfl
theorem z03 {l:List Int} (h:zat (-1) l=true):l.length≤6:=by
 have:=zum h (by omega);omega
theorem zaj4 {p:zb} {a:Asked} (hf:zaj3 p a) (hv:a.P.V∈p.Links.Done.get a.C):zagg p a.C a.P.V=p:=by
 unfold zagg
 rw[zasd hf.d hv,zos _ hf.c]
theorem zaj5 {l:List Int} {k v:Int} (hl:l.length≤6) (hk:z9z l v k):zbz l k [v]=some (l.take k.toNat++[v]++l.drop k.toNat):=by
 unfold zbz insP
 rw[if_pos ⟨hk.1,hk.2.1,by simp,by simp;omega⟩]
theorem zasf {p:zb} {a:Asked} (hf:zaj3 p a):zmd a p=some ((zg9 p a).2,(zg9 p a).1):=by
 obtain ⟨hv,hc,hk,hw,hd⟩:=hf
 have hl:=z03 hd
 obtain ⟨pk,hs,hpl⟩:=zaj0 (zye hd).2 (by omega) a.P.V
 have hcl:=z89 (l:=p.Links.Done.get a.C) (by omega)
 have hin:=zaj5 hl hpl
 have hmem:(!decide (a.P.V∈p.Links.Done.get a.C))=true→(p.Links.Done.get a.C).take pk.toNat++[a.P.V]++(p.Links.Done.get a.C).drop pk.toNat=insD (p.Links.Done.get a.C) a.P.V:=by
  intro h
  exact zanp hd (by simpa using h) hv hpl
 rw[zmd,zog,Tr.rg ⟨by omega,by omega⟩,Tr.rg hc]
 unfold zg9
 by_cases k2:a.P.Kind=2
 ·rw[Tr.rt (by simpa using k2),Tr.rg (by rw[zze hw];rfl),Tr.rl,zze hw,if_pos k2];rfl
 ·rw[Tr.rf (by simpa using k2),if_neg k2]
  by_cases k4:a.P.Kind=4
  ·rw[if_pos k4,Tr.rf (by rw[k4];decide),Tr.rt (by simpa using k4)]
   by_cases hdd:p.Stake.Validators.Dead.get a.P.V=true
   ·rw[if_pos hdd,hdd,zyc,Tr.rl]
   ·rw[if_neg hdd,Bool.eq_false_iff.2 hdd,zyd,Tr.rg (by rw[z7k];rfl),z7k]
    simp only[yy2]
    rw[Tr.rg (by rw[zacb];rfl),Tr.rl,zacb];rfl
  ·have k3:a.P.Kind=3:=by omega
   rw[if_neg k4,Tr.rt (by simpa using k3)]
   by_cases hj:p.Stake.Validators.Jailed.get a.P.V=true
   ·rw[if_pos hj,hj,zyc,Tr.rg (by rw[hs];rfl),hs]
    simp only[yy2]
    by_cases hm:a.P.V∈p.Links.Done.get a.C
    ·rw[decide_eq_true hm,zyc,Tr.rl,zaj4 ⟨hv,hc,hk,hw,hd⟩ hm]
    ·rw[decide_eq_false hm,zyd,Tr.rg (by rw[hcl];rfl),hcl]
     simp only[yy2]
     rw[Tr.rg (by rw[hin];rfl),Tr.rl,hin,yy2,hmem (by simpa using hm)]
     rfl
   ·rw[if_neg hj,Bool.eq_false_iff.2 hj,zyd,Tr.rg (by decide),Tr.rg (by rw[zaej];rfl),zaej]
    simp only[yy2]
    rw[show (if (i64.wrap (Int.tdiv (p.Stake.Validators.Tokens.get a.P.V) 100)) > 1 then (i64.wrap (Int.tdiv (p.Stake.Validators.Tokens.get a.P.V) 100)) else 1)=zsb p a.P.V from rfl]
    by_cases ht:(zzi p.Meter (zsb p a.P.V)).2=true
    ·rw[if_pos ht,ht,zyc,Tr.rg (by rw[zajf];rfl),Tr.rg (by rw[hs];rfl),hs,zajf]
     simp only[yy2]
     by_cases hm:a.P.V∈p.Links.Done.get a.C
     ·rw[decide_eq_true hm,zyc,Tr.rl]
      have:=zaj4 (p:={ p with Stake:=(za8 p.Stake a.P.V 0).1,Meter:=(zzi p.Meter (zsb p a.P.V)).1 }) (a:=a) ⟨hv,hc,hk,by show (za8 p.Stake a.P.V 0).1.Waits.length*64≤_;rw[z9o];exact hw,hd⟩ hm
      rw[this]
     ·rw[decide_eq_false hm,zyd,Tr.rg (by rw[hcl];rfl),hcl]
      simp only[yy2]
      rw[Tr.rg (by rw[hin];rfl),Tr.rl,hin,yy2,hmem (by simpa using hm)]
      rfl
    ·rw[if_neg ht,Bool.eq_false_iff.2 ht,zyd,Tr.rl]
def upP (p:zb) (S:Stake) (D:A2 (List Int)) (M:Meter):zb:={ p with Stake:=S,Links:={ p.Links with Done:=D },Meter:=M }
def DealI (p0 p:zb):Prop:=∃ S D M,p=upP p0 S D M∧GoodS S∧zat (-1) D.x0=true∧zat (-1) D.x1=true
theorem DealI.get {p0 p:zb} (h:DealI p0 p) {c:Int}:zat (-1) (p.Links.Done.get c)=true:=by
 obtain ⟨S,D,M,rfl,_,h0,h1⟩:=h
 show zat (-1) (D.get c)=true
 unfold A2.get;split<;>assumption
theorem DealI.good {p0 p:zb} (h:DealI p0 p):GoodS p.Stake:=by obtain ⟨S,D,M,rfl,h,_⟩:=h;exact h
theorem zaj6 {p0:zb} {S:Stake} {D:A2 (List Int)} {M:Meter} {c v:Int} (h0:zat (-1) D.x0=true) (h1:zat (-1) D.x1=true):∃ D',zagg (upP p0 S D M) c v=upP p0 S D' M∧zat (-1) D'.x0=true∧zat (-1) D'.x1=true:=by
 refine ⟨D.set c (insD (D.get c) v),rfl,?_,?_⟩
 ·show zat (-1) (if c=0 then insD (D.get c) v else D.x0)=true
  split
  ·exact zaj2 _ _
  ·exact h0
 ·show zat (-1) (if c=1 then insD (D.get c) v else D.x1)=true
  split
  ·exact zaj2 _ _
  ·exact h1
theorem zua {s:Stake} (hg:GoodS s) (v h f:Int):GoodS (zef s v h f).1:=(zaf9 hg v h f).1
theorem zsc {s:Stake} (hg:GoodS s) (v:Int) {what:Int} (hw:what=0∨what=1∨what=2):GoodS (za8 s v what).1:=(zaf8 hg v hw).1
theorem zael {p0 p:zb} (h:DealI p0 p) (a:Asked):DealI p0 (zg9 p a).1:=by
 obtain ⟨S,D,M,rfl,hS,h0,h1⟩:=h
 unfold zg9
 split
 ·exact ⟨zim S a.C a.P.Id,D,M,rfl,zz6 hS,h0,h1⟩
 ·split
  ·split
   ·exact ⟨S,D,M,rfl,hS,h0,h1⟩
   ·exact ⟨_,D,M,rfl,zsc (zua hS _ _ _) _ (.inr (.inr rfl)),h0,h1⟩
  ·split
   ·obtain ⟨D',e,k0,k1⟩:=zaj6 (p0:=p0) (S:=S) (M:=M) (c:=a.C) (v:=a.P.V) h0 h1
    exact ⟨S,D',M,e,hS,k0,k1⟩
   ·split
    ·obtain ⟨D',e,k0,k1⟩:=zaj6 (p0:=p0) (S:=(za8 S a.P.V 0).1) (M:=(zzi M (zsb (upP p0 S D M) a.P.V)).1) (c:=a.C) (v:=a.P.V) h0 h1
     exact ⟨_,D',_,e,zsc hS _ (.inl rfl),k0,k1⟩
    ·exact ⟨S,D,M,rfl,hS,h0,h1⟩
def zha (t:zb×A2 Bool×List Asked) (a:Asked):zb×A2 Bool×List Asked :=
 if t.2.1.get a.C=true then (t.1,t.2.1.set a.C true,t.2.2++[a])
 else if (zg9 t.1 a).2=true then ((zg9 t.1 a).1,t.2.1,t.2.2)
 else ((zg9 t.1 a).1,t.2.1.set a.C true,t.2.2++[a])
def z4c (p0:zb) (i:Nat) (t:zb×A2 Bool×List Asked):Prop :=
 DealI p0 t.1∧t.2.2.length≤i∧(∀ c:Int,0≤c∧c < 2→t.2.1.get c=t.2.2.any (fun b=>b.C==c))∧∀ b,b∈t.2.2→b∈p0.Queue
theorem zao {α:Type} (a:A2 α) {i j:Int} (y:α) (hi:0≤i∧i < 2) (hj:0≤j∧j < 2):(a.set i y).get j=if j=i then y else a.get j:=by
 rcases (show i=0∨i=1 by omega) with rfl | rfl<;>rcases (show j=0∨j=1 by omega) with rfl | rfl<;>rfl
theorem z7p {p0:zb} {i:Nat} {t:zb×A2 Bool×List Asked} (h:z4c p0 i t) {a:Asked} (hc:0≤a.C∧a.C < 2) (ha:a∈p0.Queue):z4c p0 (i+1) (zha t a):=by
 obtain ⟨h1,h2,h3,h4⟩:=h
 have more:∀ p,DealI p0 p→z4c p0 (i+1) (p,t.2.1.set a.C true,t.2.2++[a]):=by
  intro p hp
  refine ⟨hp,by simp;omega,fun c hcc=>?_,fun b hb=>?_⟩
  ·show (t.2.1.set a.C true).get c=(t.2.2++[a]).any (fun b=>b.C==c)
   rw[zao _ _ hc hcc,List.any_append]
   by_cases e:c=a.C
   ·rw[if_pos e];simp[e]
   ·rw[if_neg e,h3 c hcc];simp[Ne.symm e]
  ·rcases List.mem_append.1 hb with hb | hb
   ·exact h4 b hb
   ·rw[List.mem_singleton.1 hb];exact ha
 unfold zha
 split
 ·exact more _ h1
 ·split
  ·exact ⟨zael h1 a,by simp only[];omega,h3,h4⟩
  ·exact more _ (zael h1 a)
theorem zasg {p0 p:zb} (hp:DealI p0 p) {q:zb} {a:Asked} (ha:zu3 q a=true):zaj3 p a:=by
 unfold zu3 at ha
 simp only[yy7,decide_eq_true_eq,beq_iff_eq,Bool.not_eq_true',beq_eq_false_iff_ne] at ha
 obtain ⟨⟨⟨⟨c0,c1⟩,_⟩,hg⟩,hk⟩:=ha
 have hf:=zk0 hg
 exact ⟨⟨hf.2.2.2.2.1,hf.2.2.2.2.2.1⟩,⟨c0,c1⟩,by omega,hp.good.fit,hp.get⟩
theorem zanq {p0:zb} {q:zb} {now:Int} {d:zb} {l:List Asked} {p:zb} (hp:DealI p0 p) (hl:l.length*88≤140737488351232) (ha:∀ a,a∈l→zu3 q a=true∧a∈p0.Queue) :
  zge now l l.length 0 p d ⟨false,false⟩ []=some (now,(l.foldl zha (p,⟨false,false⟩,[])).1,d,(l.foldl zha (p,⟨false,false⟩,[])).2.2):=by
 rw[zge]
 have:=zj6 (F:=fun s:Int×(List Asked)×Int×Int×zb×zb×(A2 Bool)×(List Asked)=>(zez s.1 s.2.1 s.2.2.1 s.2.2.2.1 s.2.2.2.2.1 s.2.2.2.2.2.1 s.2.2.2.2.2.2.1 s.2.2.2.2.2.2.2).run) l default
  (fun i (t:zb×A2 Bool×List Asked)=>(now,l,(l.length:Int),(i:Int),t.1,d,t.2.1,t.2.2)) (z4c p0) zha (fun t=>(now,t.1,d,t.2.2)) (by
   intro t _
   simp only[zez]
   rw[Tr.rf (by simp),Tr.rl]) (by
   intro i t hi hI
   obtain ⟨a1,a2⟩:=ha _ (zfl (l:=l) (k:=i) hi default)
   have hfit:=zasg hI.1 a1
   refine ⟨?_,z7p hI hfit.c a2⟩
   have hlen:=hI.2.1
   simp only[zez,yy4]
   rw[Tr.rt (by simpa using hi),Tr.rg ⟨by omega,by show (i:Int) < (l.length:Nat);omega⟩,Tr.rg hfit.c]
   unfold zha
   by_cases hw:t.2.1.get (l.getD i default).C=true
   ·rw[if_pos hw,Tr.rt hw,Tr.rt (show true=true from rfl),Tr.rt (show true=true from rfl),Tr.rt (show true=true from rfl)]
    rw[Tr.rg hfit.c,Tr.rg (by show (t.2.2.length+1)*88≤_;omega),Tr.rl,zy (by omega)]
   ·rw[if_neg hw,Tr.rf (Bool.eq_false_iff.2 hw),Tr.rb (zasf hfit)]
    simp only[]
    by_cases hd:(zg9 t.1 (l.getD i default)).2=true
    ·rw[if_pos hd,Tr.rf (by rw[hd];rfl),Tr.rl,zy (by omega)]
    ·rw[if_neg hd,Tr.rt (by rw[Bool.eq_false_iff.2 hd];rfl),Tr.rg hfit.c,Tr.rg (by show (t.2.2.length+1)*88≤_;omega),Tr.rl,zy (by omega)]) (p,⟨false,false⟩,[]) ⟨hp,by simp,fun c hc=>by rcases (show c=0∨c=1 by omega) with rfl | rfl<;>rfl,fun b hb=>by cases hb⟩
 exact this
def dOf (p:zb) (c:Int):List Power:=zoq (fP (p.Links.Told.get c)) (fP p.Set)
def pkOf (p:zb) (c:Int):Packet:=⟨1,p.Height,0,0,dOf p c,p.Links.Done.get c⟩
def zoy (p:zb) (c now:Int):zi6×Int:=z67 (zd3 p.Links c) (zgu (pkOf p c)).1 (now+40)
def zanr (p:zb) (c now:Int):zb :=
 { p with Links:={ p.Links with Told:=p.Links.Told.set c p.Set,Fresh:=p.Links.Fresh.set c false,Done:=p.Links.Done.set c [],Said:=p.Links.Said.set c (zoy p c now).1.Said,Due:=p.Links.Due.set c (zoy p c now).1.Due,Got:=p.Links.Got.set c (zoy p c now).1.Got,Closed:=p.Links.Closed.set c (zoy p c now).1.Closed } }
def zz8 (p:zb) (c:Int):Prop:=p.Links.On.get c=false∨(dOf p c=[]∧p.Links.Done.get c=[]∧p.Links.Fresh.get c=false)
instance (p:zb) (c:Int):Decidable (zz8 p c):=by
 have:Decidable (dOf p c=[]):=decidable_of_iff ((dOf p c).length=0) List.length_eq_zero_iff
 have:Decidable (p.Links.Done.get c=[]):=decidable_of_iff ((p.Links.Done.get c).length=0) List.length_eq_zero_iff
 exact inferInstanceAs (Decidable (_∨_))
def zdn (p:zb) (c now:Int):zb :=
 if zz8 p c then p else if (zgu (pkOf p c)).2≠0 then p else if (zoy p c now).2≠0 then p else zanr p c now
structure z7q (p:zb) (c:Int):Prop where
 t:(p.Links.Told.get c).length≤9223372036854775807
 s:p.Set.length≤6
 d:(p.Links.Done.get c).length≤6
 u:(p.Links.Due.get c).length≤9223372036854775807
theorem quiet_iff {p:zb} {c:Int}:zz8 p c↔p.Links.On.get c=false∨((dOf p c).length=0∧(p.Links.Done.get c).length=0∧p.Links.Fresh.get c=false):=by
 unfold zz8;rw[List.length_eq_zero_iff,List.length_eq_zero_iff]
theorem zwv {l:List Power} (h:l.length≤6):zam l=some l:=by
 rw[zam,zdq]
 refine Tr.run_split (fun h0=>?_) (fun _=>?_) (.inr trivial)
 ·rw[Tr.rl,List.length_eq_zero_iff.1 h0]
 ·rw[Tr.rg (by simp only[za2,List.length_nil];omega),Tr.rl]
theorem zaj7 {p:zb} {c now:Int} (hf:z7q p c) (hc:0≤c∧c < 2) (hn:0≤now∧now≤1099511627776):zil c now p=some (zdn p c now):=by
 obtain ⟨ft,fs,fd,fu⟩:=hf
 have hdl:(dOf p c).length≤6:=zafw _ _
 have hD:zd1 (p.Links.Told.get c) p.Set=some (dOf p c):=zanb ft (by omega)
 have hE:zbf (⟨1,p.Height,0,0,dOf p c,p.Links.Done.get c⟩:Packet)=some (zgu (pkOf p c)):=z2j (by show (dOf p c).length*16≤_;omega) (by show (p.Links.Done.get c).length*8≤_;omega)
 rw[zil,zod,Tr.rg hc,Tr.rg (by rw[hD];rfl),hD]
 simp only[yy2]
 unfold zdn
 by_cases hq:zz8 p c
 ·rw[if_pos hq,Tr.rt (by
   rw[quiet_iff] at hq
   simp only[Bool.or_eq_true,yy7,Bool.not_eq_true',beq_iff_eq]
   rcases hq with h | ⟨h1,h2,h3⟩
   ·exact .inl h
   ·exact .inr ⟨⟨by omega,h3⟩,by omega⟩),Tr.rl]
 ·rw[if_neg hq,Tr.rf (by
   rw[Bool.eq_false_iff]
   intro h
   simp only[Bool.or_eq_true,yy7,Bool.not_eq_true',beq_iff_eq] at h
   refine hq (quiet_iff.2 ?_)
   rcases h with h | ⟨⟨h1,h2⟩,h3⟩
   ·exact .inl h
   ·exact .inr ⟨by omega,by omega,h2⟩),Tr.rg (by rw[hE];rfl),hE]
  simp only[yy2]
  by_cases he:(zgu (pkOf p c)).2≠0
  ·rw[if_pos he,Tr.rt (by simpa using he),Tr.rl]
  ·rw[if_neg he,Tr.rf (by simpa using he),zj (x:=now+40) (by omega) (by omega),Tr.rb (zao5 _ _ _)]
   by_cases hs:(zoy p c now).2≠0
   ·rw[if_pos hs,Tr.rt (by simpa[zoy] using hs),Tr.rl]
   ·rw[if_neg hs,Tr.rf (by simpa[zoy] using hs),Tr.rg (by rw[zwv fs];rfl),Tr.rl,zwv fs]
    rfl
def zhg (p:zb) (now:Int):zb:={ p with Height:=p.Height+1,Time:=now,Meter:=z4b p.Meter (allP p.Set) now }
def zbp (p:zb) (now:Int):zb×A2 Bool×List Asked:=p.Queue.foldl zha (zhg p now,⟨false,false⟩,[])
def zmi (p:zb) (now:Int):zb :=
 { (zbp p now).1 with Stake:=(z4a (zbp p now).1.Stake now).1,Set:=setS (z4a (zbp p now).1.Stake now).1,Queue:=(zbp p now).2.2 }
def ze9 (p:zb) (now:Int):zb×List Int×Int :=
 if zaa p=true∧p.Time≤now∧now≤1099511627776 then (zdn (zdn (zmi p now) 0 now) 1 now,(z4a (zbp p now).1.Stake now).2.1,0) else (p,[],2)
theorem zaem (l:List Power):i6 (allP l):=by
 have:∀ (l:List Power) (t:Int),i6 t→i6 (l.foldl (fun t p=>i64.wrap (t+p.N)) t):=by
  intro l
  induction l with
  | nil=>intro t ht;exact ht
  | cons q l ih=>intro t _;exact ih _ (by show i6 (i64.wrap (t+q.N));rw[IntKind.wrap_i64];unfold i6;omega)
 exact this l 0 (by unfold i6;omega)
theorem z2z {p:zb} {now:Int} (hg:zaa p=true):DealI (zhg p now) (zhg p now):=by
 obtain ⟨g1,_,_,k0,k1,_⟩:=zi4 hg
 unfold z9u at k0 k1
 simp only[yy7] at k0 k1
 exact ⟨p.Stake,p.Links.Done,z4b p.Meter (allP p.Set) now,rfl,g1,k0.2,k1.2⟩
theorem zaen {p0:zb}:∀ (l:List Asked) (i:Nat) (t:zb×A2 Bool×List Asked),z4c p0 i t→(∀ a,a∈l→(0≤a.C∧a.C < 2)∧a∈p0.Queue)→z4c p0 (i+l.length) (l.foldl zha t)
 | [],i,t,h,_=>h
 | a::l,i,t,h,ha=>by
  have:=zaen l (i+1) (zha t a) (z7p h (ha a (List.mem_cons_self ..)).1 (ha a (List.mem_cons_self ..)).2) (fun b hb=>ha b (List.mem_cons_of_mem _ hb))
  rw[List.foldl_cons,List.length_cons,show i+(l.length+1)=i+1+l.length by omega]
  exact this
theorem z7r {p:zb} (hg:zaa p=true):∀ a,a∈p.Queue→zu3 p a=true∧(0≤a.C∧a.C < 2):=by
 intro a ha
 have h:=List.all_eq_true.1 (zi4 hg).2.2.2.2.2 a ha
 refine ⟨h,?_⟩
 unfold zu3 at h
 simp only[yy7,decide_eq_true_eq] at h
 exact h.1.1.1
theorem zub {p:zb} {now:Int} (hg:zaa p=true):z4c (zhg p now) p.Queue.length (zbp p now):=by
 have:=zaen (p0:=zhg p now) p.Queue 0 (zhg p now,⟨false,false⟩,[]) ⟨z2z hg,by simp,fun c hc=>by rcases (show c=0∨c=1 by omega) with rfl | rfl<;>rfl,fun b hb=>by cases hb⟩ (fun a ha=>⟨(z7r hg a ha).2,ha⟩)
 rwa [Nat.zero_add] at this
theorem zaeo {p:zb} (hf:FitPr 140737488351232 p) {now:Int} (hg:zaa p=true) (c:Int):z7q (zmi p now) c:=by
 have hq:=zub (now:=now) hg
 obtain ⟨S,D,M,e,hS,d0,d1⟩:=hq.1
 have ht:=hf.told c
 have hu:=hf.due c
 refine ⟨?_,z2f _,?_,?_⟩
 ·show ((zbp p now).1.Links.Told.get c).length≤_
  rw[e];show (p.Links.Told.get c).length≤_;omega
 ·show ((zbp p now).1.Links.Done.get c).length≤6
  exact z03 hq.1.get
 ·show ((zbp p now).1.Links.Due.get c).length≤_
  rw[e];show (p.Links.Due.get c).length≤_;omega
theorem zans {p:zb} {now:Int} (h:z7q p 1):z7q (zdn p 0 now) 1:=by
 unfold zdn
 split
 ·exact h
 ·split
  ·exact h
  ·split
   ·exact h
   ·exact ⟨h.t,h.s,h.d,h.u⟩
theorem zaep {p:zb} {now:Int}:(((!zaa p)||(decide (now < p.Time)))||(decide (now > 1099511627776))) = !decide (zaa p=true∧p.Time≤now∧now≤1099511627776):=by
 rw[Bool.eq_iff_iff]
 simp only[Bool.or_eq_true,Bool.not_eq_true',decide_eq_true_eq,yy8]
 cases zaa p<;>simp<;>omega
theorem zagh {p:zb} (hf:FitPr 140737488351232 p) {now:Int}:zco p now=some (ze9 p now):=by
 have hset:=hf.set
 rw[zco,zp4,Tr.rb (zi3 hf)]
 unfold ze9
 by_cases hg:zaa p=true∧p.Time≤now∧now≤1099511627776
 ·obtain ⟨hg1,hg2⟩:=hg
  have hnum:=(zi4 hg1).2.1
  unfold zz7 at hnum
  rw[if_pos ⟨hg1,hg2⟩,Tr.rf (by rw[zaep,decide_eq_true ⟨hg1,hg2⟩];rfl),Tr.rg (by rw[zao7 (by omega)];rfl),zao7 (by omega)]
  simp only[yy2]
  rw[Tr.rg (by rw[zaei (zaem _)];rfl),zaei (zaem _),zj (x:=p.Height+1) (by omega) (by omega)]
  simp only[yy2]
  have hloop:=zanq (p0:=zhg p now) (q:=p) (now:=now) (d:=default) (l:=p.Queue) (p:=zhg p now) (z2z hg1) hf.queue (fun a ha=>⟨(z7r hg1 a ha).1,ha⟩)
  have hinv:=zub (now:=now) hg1
  have hgs:GoodS (zbp p now).1.Stake:=hinv.1.good
  have hpay:=zaec hgs now
  have hz:(z4a (zbp p now).1.Stake now).2.2=0:=by rw[z7o hgs]
  rw[Tr.rb (show zge now p.Queue ((p.Queue.length:Nat):Int) 0 (⟨p.Height+1,now,p.Stake,p.Set,p.Links,z4b p.Meter (allP p.Set) now,p.Queue⟩:zb) default ⟨false,false⟩ []=some (now,(zbp p now).1,default,(zbp p now).2.2) from hloop)]
  simp only[]
  rw[Tr.rb (show zpb (zbp p now).1.Stake now=_ from zawp),Tr.rf (by rw[hz];rfl),Tr.rb (zaws hpay)]
  have h0:=zaj7 (now:=now) (zaeo hf (now:=now) hg1 0) (by omega) (by omega)
  have h1:=zaj7 (now:=now) (zans (now:=now) (zaeo hf (now:=now) hg1 1)) (by omega) (by omega)
  rw[Tr.rb (v:=((z4a (zbp p now).1.Stake now).2.1,zdn (zdn (zmi p now) 0 now) 1 now,default)) (by
   show zj3 now (z4a (zbp p now).1.Stake now).2.1 0 (zmi p now) default=_
   rw[zj3,zca (s':=(now,(z4a (zbp p now).1.Stake now).2.1,((1:Nat):Int),zdn (zmi p now) 0 now,default)) (by
     simp only[ze0]
     rw[Tr.rt (by simp),Tr.rb h0,Tr.rl];rfl),
    zca (s':=(now,(z4a (zbp p now).1.Stake now).2.1,((2:Nat):Int),zdn (zdn (zmi p now) 0 now) 1 now,default)) (by
     simp only[ze0]
     rw[Tr.rt (by simp)]
     rw[Tr.rb (show zil ((1:Nat):Int) now _=_ from h1),Tr.rl];rfl),
    zc3 (by
     simp only[ze0]
     rw[Tr.rf (by simp),Tr.rl])]),Tr.rl]
 ·rw[if_neg hg,Tr.rt (by rw[zaep,decide_eq_false hg];rfl),Tr.rl]
theorem z5f:zaa z9w=true:=by decide
theorem zaeq {p:zb} {c now:Int} (h:p.Links.On.get c=false):zdn p c now=p:=by unfold zdn;rw[if_pos (.inl h)]
theorem zfa (l:List Asked):Sl.len (.asked l)=l.length:=rfl
theorem zagi {s:Stake} (hg:GoodS s) {v h:Int} (hv:0≤v∧v < 6):(zef s v h 50).2.2=0:=by
 unfold zef
 rw[if_neg (by rw[zzg hg (by omega) hv];simp),if_neg (by omega)]
theorem zaj8 {s:Stake} (hg:GoodS s) {v:Int} (hv:0≤v∧v < 6) (hd:s.Validators.Dead.get v=false):(za8 s v 2).2=0:=by
 unfold za8
 rw[if_neg (by rw[zzg hg (by omega) hv];simp),if_neg (by omega),if_neg (by rw[hd];simp),if_neg (by omega)]
theorem zagj (s:Stake) (v h f:Int):(zef s v h f).1.Validators.Dead=s.Validators.Dead:=by
 unfold zef
 repeat' split
 all_goals rfl
def zuc (p:zb) (v h:Int):zb×Int :=
 if zaa p=false then (p,2) else if 0≤v∧v < 6 then (if 1≤h∧h≤p.Height then (if p.Stake.Validators.Dead.get v=true then (p,15) else ({ p with Stake:=(za8 (zef p.Stake v h 50).1 v 2).1 },0)) else (p,2)) else (p,4)
theorem z20 {p:zb} (hf:FitPr 140737488351232 p) {v h:Int}:zhm p v h=some (zuc p v h):=by
 rw[zhm,zi1,Tr.rb (zi3 hf)]
 unfold zuc
 cases hg:zaa p with
 | false=>rw[zyd,Tr.rl,if_pos rfl]
 | true =>
  rw[zyc,if_neg (by simp)]
  by_cases hv:0≤v∧v < 6
  ·rw[Tr.rf (by simp;omega),if_pos hv]
   by_cases hh:1≤h∧h≤p.Height
   ·rw[Tr.rf (by simp;omega),if_pos hh,Tr.rg hv]
    cases hd:p.Stake.Validators.Dead.get v with
    | true=>rw[Tr.rt rfl,Tr.rl,if_pos rfl]
    | false =>
     have hs:=(zi4 hg).1
     rw[Tr.rf rfl,if_neg (by simp),Tr.rb z7k,Tr.rf (by rw[zagi hs hv];rfl),Tr.rb zacb,Tr.rf (by rw[zaj8 (zua hs v h 50) hv (by rw[zagj];exact hd)];rfl),Tr.rl]
   ·rw[Tr.rt (by simp;omega),Tr.rl,if_neg hh]
  ·rw[Tr.rt (by simp;omega),Tr.rl,if_neg hv]
def zif (p:zb) (c:Int) (s:List UInt8):zb×Int :=
 if zaa p=false then (p,2) else if (0≤c∧c < 2)∧p.Links.On.get c=true then (if (za3 s).2≠0 then (p,(za3 s).2) else if (za3 s).1.Kind=1 then (p,3) else ({ p with Queue:=p.Queue++[⟨c,(za3 s).1⟩] },0)) else (p,4)
theorem z5g {l:List Asked} (h:l.length*88≤140737488351232):zaw l=some l:=by
 rw[zaw,zen]
 refine Tr.run_split (fun h0=>?_) (fun _=>?_) (.inr trivial)
 ·rw[Tr.rl,List.length_eq_zero_iff.1 h0]
 ·rw[Tr.rg (by simp only[zfa,List.length_nil];omega),Tr.rl]
theorem zacp {p:zb} (hf:FitPr 140737488351232 p) {c:Int} {a:ByteArray} (ha:a.size≤140737488355328):za7 p c a=some (zif p c a.data.toList):=by
 have e1:zet a=some (za3 a.data.toList):=z9e (s:=a.data.toList) (by have:a.data.toList.length=a.size:=rfl;omega)
 have hq:=hf.queue
 rw[za7,zob,Tr.rb e1,Tr.rb (zi3 hf)]
 simp only[z5g hf.queue,Option.isSome_some,yy2]
 unfold zif
 cases hg:zaa p with
 | false=>rw[zyd,Tr.rl,if_pos rfl]
 | true =>
  rw[zyc,if_neg (by simp),Tr.rg (by
   intro h0
   simp only[Bool.or_eq_false_iff,yy8] at h0
   exact ⟨by omega,trivial⟩)]
  by_cases hc:(0≤c∧c < 2)∧p.Links.On.get c=true
  ·rw[if_pos hc,Tr.rf (by rw[hc.2];simp;omega)]
   by_cases hd:(za3 a.data.toList).2=0
   ·rw[Tr.rf (by simpa using hd),if_neg (by simpa using hd)]
    by_cases hk:(za3 a.data.toList).1.Kind=1
    ·rw[Tr.rt (by simpa using hk),if_pos hk,Tr.rl]
    ·rw[Tr.rf (by simpa using hk),if_neg hk,Tr.rg (by trivial),Tr.rg (by simp only[zfa,yy5];omega),Tr.rl]
   ·rw[Tr.rt (by simpa using hd),if_pos hd,Tr.rl]
  ·rw[if_neg hc,Tr.rt (by
    simp only[Bool.or_eq_true,decide_eq_true_eq,Bool.not_eq_true']
    by_cases h1:0≤c∧c < 2
    ·exact .inr (Bool.eq_false_iff.2 (fun h2=>hc ⟨h1,h2⟩))
    ·exact .inl (by omega)),Tr.rl]
theorem z21 {p:Packet} (h:zcs p=0):p.Set.length≤6∧p.Done.length≤6:=by
 obtain ⟨_,_,_,_,_,_,_,_,g9,g10,_⟩:=zk0 h
 have l1:=zjc g9 (by omega)
 exact ⟨by omega,z03 g10⟩
theorem zaer {s:List UInt8} (h:(za3 s).2=0):zcs (za3 s).1=0:=by
 unfold za3 at h ⊢
 split
 ·rename_i k;rw[if_pos k] at h;cases h
 ·rename_i k
  rw[if_neg k] at h
  split
  ·rename_i k2;rw[if_pos k2] at h;exact absurd h k2
  ·rename_i k2;exact Classical.not_not.1 k2
def zhh (L:Links) (c H:Int) (T:List Power) (f:Bool):Links :=
 ⟨L.On.set c true,L.Gone.set c false,L.Base.set c H,L.Told.set c T,L.Fresh.set c f,L.Done.set c [],L.Said.set c [],L.Due.set c [],L.Got.set c 0,L.Closed.set c false,L.SHeight.set c 0,L.STime.set c 0,L.SSaid.set c 0,L.SGot.set c 0⟩
def zmt (p:zb) (c:Int) (W:List Wait) (f:Bool):zb:={ p with Stake:={ p.Stake with Waits:=W },Links:=zhh p.Links c p.Height p.Set f }
def zeg (c H:Int) (w:Wait):Wait:=if H < w.Height then { w with h0:=if c=0 then w.Height else w.h0,h1:=if c=1 then w.Height else w.h1 } else w
def zsq (p:zb):Bool:=p.Stake.Waits.any (fun w=>decide (p.Height < w.Height))
def zdw (p:zb) (c:Int):zb×Int :=
 if zaa p=false then (p,2) else if 0≤c∧c < 2 then (if p.Links.Gone.get c=true then (p,11) else if p.Links.On.get c=true then (p,5) else if p.Height < 1∨p.Set.length=0 then (p,13)
  else (zmt p c (p.Stake.Waits.map (zeg c p.Height)) (zsq p),0)) else (p,4)
theorem zaes {α:Type} (q:α→Bool):∀ (l:List α) (b:Bool),l.foldl (fun t w=>t||q w) b=(b||l.any q)
 | [],b=>by simp
 | a::l,b=>by rw[List.foldl_cons,zaes q l,List.any_cons,Bool.or_assoc]
theorem zagk {α:Type} (a:A2 α) (c:Int) (x y:α):(a.set c x).set c y=a.set c y:=by
 unfold A2.set
 by_cases h:c=0
 ·subst h;rfl
 ·by_cases h1:c=1
  ·subst h1;rfl
  ·simp[h,h1]
theorem zawy {l W:List Wait} {i:Nat} {w:Wait} (hi:i < W.length) (hg:W.getD i default=w):W.set i w=W:=by rw[← hg,z7h hi]
theorem zagl {p z:zb} {c:Int} (hc:0≤c∧c < 2) (hw:p.Stake.Waits.length*64≤140737488351232) :
  zhl c p.Stake.Waits.length 0 (zmt p c p.Stake.Waits false) z=some (zmt p c (p.Stake.Waits.map (zeg c p.Height)) (zsq p),z):=by
 rw[zhl]
 have:=z7i (F:=fun s:Int×Int×Int×zb×zb=>(zde s.1 s.2.1 s.2.2.1 s.2.2.2.1 s.2.2.2.2).run) p.Stake.Waits default
  (fun i W (f:Bool)=>(c,(p.Stake.Waits.length:Int),(i:Int),zmt p c W f,z)) (fun _ _=>True) (zeg c p.Height) (fun t w=>t||decide (p.Height < w.Height)) (fun W f=>(zmt p c W f,z)) ?_ ?_ false trivial
 ·rw[zaes] at this
  exact this
 ·intro W t hW _
  simp only[zde];rw[Tr.rf (by simp),Tr.rl]
 ·intro i W t hi hW hg _
  refine ⟨?_,trivial⟩
  simp only[zde]
  rw[yy4,show (zmt p c W t).Stake.Waits=W from rfl,hg,show (zmt p c W t).Height=p.Height from rfl]
  generalize hw':p.Stake.Waits.getD i default=w at hg ⊢
  rw[Tr.rt (by simpa using hi),Tr.rg ⟨by omega,by rw[zb5];omega⟩]
  by_cases hp:p.Height < w.Height
  ·rw[Tr.rt (by simpa using hp),Tr.rg hc,Tr.rg hc,Tr.rl,zy (by omega)]
   have e:zeg c p.Height w={ w with h0:=if c=0 then w.Height else w.h0,h1:=if c=1 then w.Height else w.h1 }:=if_pos hp
   rw[e,decide_eq_true hp,Bool.or_true]
   rw[show (zmt p c W t).Links.Fresh=p.Links.Fresh.set c t from rfl,zagk]
   rfl
  ·rw[Tr.rf (by simpa using hp),Tr.rl,zy (by omega)]
   have e:zeg c p.Height w=w:=if_neg hp
   rw[e,decide_eq_false hp,Bool.or_false,zawy (l:=W) (by omega) hg]
theorem z90 {p:zb} (hf:FitPr 140737488351232 p) {c:Int}:zan p c=some (zdw p c):=by
 rw[zan,zmc,Tr.rb (zi3 hf)]
 unfold zdw
 cases hg:zaa p with
 | false=>rw[zyd,Tr.rl,if_pos rfl]
 | true =>
  rw[zyc,if_neg (by simp)]
  by_cases hc:0≤c∧c < 2
  ·rw[Tr.rf (by simp;omega),if_pos hc,Tr.rg hc]
   cases h1:p.Links.Gone.get c with
   | true=>rw[Tr.rt rfl,Tr.rl,if_pos rfl]
   | false =>
    rw[Tr.rf rfl,if_neg (by simp),Tr.rg hc]
    cases h2:p.Links.On.get c with
    | true=>rw[Tr.rt rfl,Tr.rl,if_pos rfl]
    | false =>
     rw[Tr.rf rfl,if_neg (by simp)]
     have hs:=zjc (zi4 hg).2.2.1 (by omega)
     by_cases h3:p.Height < 1∨p.Set.length=0
     ·rw[if_pos h3,Tr.rt (by simp only[Bool.or_eq_true,decide_eq_true_eq,beq_iff_eq];omega),Tr.rl]
     ·have hcl:=zwv (l:=p.Set) (by omega)
      rw[if_neg h3,Tr.rf (by simp only[Bool.or_eq_false_iff,yy8,beq_eq_false_iff_ne];omega),Tr.rg (by rw[hcl];rfl),Tr.rg hc,Tr.rb (zx9 hf.waits),hcl,Tr.rb (v:=(zmt p c (p.Stake.Waits.map (zeg c p.Height)) (zsq p),default)) (by exact zagl hc hf.waits),Tr.rl]
  ·rw[Tr.rt (by simp;omega),Tr.rl,if_neg hc]
def zur (L:Links) (c:Int):Links:={ L with On:=L.On.set c false,Gone:=L.Gone.set c true,Fresh:=L.Fresh.set c false,Done:=L.Done.set c [],Closed:=L.Closed.set c true }
def zz9 (c:Int) (a:Asked):Bool:=a.C != c
def zpi (p:zb) (c:Int):zb:={ p with Stake:=zim p.Stake c 1099511627776,Links:=zur p.Links c,Queue:=p.Queue.filter (zz9 c) }
def znd (p:zb) (c:Int):zb:=if zaa p=true∧(0≤c∧c < 2)∧p.Links.On.get c=true then zpi p c else p
theorem zapa (a:Asked) (c:Int):zei a c=some (!zz9 c a,c):=by
 rw[zei,ziz,Tr.rl]
 unfold zz9
 simp[bne]
theorem zk3 {α:Type} {l:List α} {i:Nat} (h:i < l.length) (d:α):l.take (i+1)=l.take i++[l.getD i d]:=by
 rw[List.take_succ_eq_append_getElem h,zqy h]
theorem zagm {l:List Asked} {c:Int} (hl:l.length*88≤140737488351232) :
  ∃ r,zbs l.length 0 c l=some r ∧
   (match r with | .inl y=>∃ k:Nat,y=((k:Int),c,l)∧k < l.length∧(l.take k).all (zz9 c)=true∧zz9 c (l.getD k default)=false | .inr y=>y=(c,l)∧l.all (zz9 c)=true):=by
 rw[zbs]
 have:=zfy (F:=fun s:Int×Int×Int×(List Asked)=>(zaf s.1 s.2.1 s.2.2.1 s.2.2.2).run) l.length (fun i (_:Unit)=>((l.length:Int),(i:Int),c,l)) (fun i _=>(l.take i).all (zz9 c)=true)
  (fun i _ r=>match r with | .inl y=>∃ k:Nat,y=((k:Int),c,l)∧k < l.length∧(l.take k).all (zz9 c)=true∧zz9 c (l.getD k default)=false | .inr y=>y=(c,l)∧l.all (zz9 c)=true) ?_ ?_ 0 () (Nat.zero_le _) rfl
 ·exact this
 ·intro t h
  refine ⟨.inr (c,l),?_,rfl,by rwa [List.take_length] at h⟩
  simp only[zaf];rw[Tr.rf (by simp),Tr.rl]
 ·intro i t hi h
  simp only[zaf]
  rw[yy4,Tr.rt (by simpa using hi),Tr.rg ⟨by omega,by rw[zfa];omega⟩,Tr.rb (zapa _ _)]
  cases hn:zz9 c (l.getD i default) with
  | true=>exact .inl ⟨(),by rw[Tr.rf (by rfl),Tr.rl,zy (by omega)],by rw[zk3 hi default,List.all_append,h,List.all_cons,hn];rfl,fun r hr=>hr⟩
  | false=>exact .inr ⟨.inl ((i:Int),c,l),by rw[Tr.rt (by rfl),Tr.rl],i,rfl,hi,h,hn⟩
theorem zacq {l:List Asked} {c:Int} (hl:l.length*88≤140737488351232) {k:Nat} (hk:k < l.length) (ha:(l.take k).all (zz9 c)=true) (hn:zz9 c (l.getD k default)=false) :
  ∃ r,zbx k ((k+1:Nat):Int) c l=some r∧∃ n:Nat,r.1=n∧r.2.1=c∧n≤l.length∧r.2.2.length=l.length∧r.2.2.take n=l.filter (zz9 c):=by
 rw[zbx]
 have:=zfy (F:=fun s:Int×Int×Int×(List Asked)=>(zak s.1 s.2.1 s.2.2.1 s.2.2.2).run) l.length (fun i (t:Nat×List Asked)=>((t.1:Int),(i:Int),c,t.2)) (fun i t=>t.1 < i∧t.2.length=l.length∧t.2.take t.1=(l.take i).filter (zz9 c)∧t.2.drop i=l.drop i)
  (fun i _ r=>∃ n:Nat,r.1=n∧r.2.1=c∧n≤l.length∧r.2.2.length=l.length∧r.2.2.take n=l.filter (zz9 c)) ?_ ?_ (k+1) (k,l) (by omega) ⟨by omega,rfl,?_,rfl⟩
 ·exact this
 ·rintro ⟨n,W⟩ ⟨h1,h2,h3,h4⟩
  simp only at h1 h2 h3 h4
  refine ⟨((n:Int),c,W),?_,n,rfl,rfl,by omega,h2,by rw[h3,List.take_length]⟩
  simp only[zak];rw[Tr.rf (by simp;omega),Tr.rl]
 ·rintro i ⟨n,W⟩ hi ⟨h1,h2,h3,h4⟩
  simp only at h1 h2 h3 h4
  have hg:W.getD i default=l.getD i default:=by
   have e1:=zau (l:=W) (k:=i) (by omega) default
   have e2:=zau (l:=l) (k:=i) hi default
   rw[h4,e2] at e1
   exact (List.cons.inj e1).1.symm
  have hd:W.drop (i+1)=l.drop (i+1):=by
   have e1:=zau (l:=W) (k:=i) (by omega) default
   have e2:=zau (l:=l) (k:=i) hi default
   rw[h4,e2] at e1
   exact (List.cons.inj e1).2.symm
  simp only[zak]
  rw[yy4,yy4,hg,Tr.rt (by simp;omega),Tr.rg ⟨by omega,by rw[zfa];omega⟩,Tr.rb (zapa _ _)]
  cases hq:zz9 c (l.getD i default) with
  | true =>
   refine .inl ⟨(n+1,W.set n (l.getD i default)),by rw[Tr.rt (by rfl),Tr.rg ⟨by omega,by rw[zfa];omega⟩,Tr.rl,zy (by omega),zy (by omega)],⟨by simp only[];omega,by simp only[List.length_set];exact h2,?_,?_⟩,fun r hr=>hr⟩
   ·simp only[]
    rw[zk3 (by rw[List.length_set];omega) default,List.take_set_of_le (by omega),h3,zk3 hi default,List.filter_append,zqy (by rw[List.length_set];omega),List.getElem_set_self,List.filter_cons,hq]
    rfl
   ·simp only[]
    rw[List.drop_set_of_lt (by omega),hd]
  | false =>
   refine .inl ⟨(n,W),by rw[Tr.rf (by rfl),Tr.rl,zy (by omega)],⟨by simp only[];omega,h2,?_,hd⟩,fun r hr=>hr⟩
   simp only[]
   rw[h3,zk3 hi default,List.filter_append,List.filter_cons,hq]
   simp
 ·simp only[]
  rw[zk3 hk default,List.filter_append,List.filter_cons,hn,List.filter_eq_self.2 (fun a h=>List.all_eq_true.1 ha a h)]
  simp
theorem zagn {l:List Asked} {c:Int} (hl:l.length*88≤140737488351232):zcn c l=some (c,l.filter (zz9 c)):=by
 have hi:za9 c l=some (-1,c,l)∧l.all (zz9 c)=true∨∃ k:Nat,za9 c l=some ((k:Int),c,l)∧k < l.length∧(l.take k).all (zz9 c)=true∧zz9 c (l.getD k default)=false:=by
  obtain ⟨r,h1,h2⟩:=zagm (c:=c) hl
  rw[za9,zcm]
  cases r with
  | inl y =>
   obtain ⟨k,rfl,h3,h4,h5⟩:=h2
   exact .inr ⟨k,by rw[Tr.ri h1,Tr.rl],h3,h4,h5⟩
  | inr y =>
   obtain ⟨rfl,h3⟩:=h2
   exact .inl ⟨by rw[Tr.rj h1,Tr.rl],h3⟩
 rw[zcn,zc0]
 rcases hi with ⟨h1,h2⟩ | ⟨k,h1,h2,h3,h4⟩
 ·rw[Tr.rb h1,Tr.rt (by rfl),Tr.rl,List.filter_eq_self.2 (fun a h=>List.all_eq_true.1 h2 a h)]
 ·obtain ⟨r,k1,n,k2,k3,k4,k5,k6⟩:=zacq hl h2 h3 h4
  have hcl:z8e r.2.2 r.1=some (r.2.2.take n++List.replicate (r.2.2.length - n) default):=by
   unfold z8e
   rw[k2,if_pos (by omega),yy4]
  have hlt:(r.2.2.take n).length=n:=by rw[List.length_take];omega
  rw[Tr.rb h1,Tr.rf (by simp),zy (by omega),Tr.rb k1,Tr.rb hcl,k2,Tr.rg ⟨by omega,by rw[zfa,yy6,hlt];omega⟩,Tr.rl,k3,yy4,List.drop_zero,Nat.sub_zero,List.take_left' hlt,k6]
theorem z7s {p:zb} (hf:FitPr 140737488351232 p) {c:Int}:zcx p c=some (znd p c):=by
 rw[zcx,zkz,Tr.rb (zi3 hf)]
 unfold znd
 rw[Tr.rg (by
  intro h0
  simp only[Bool.or_eq_false_iff,yy8] at h0
  exact ⟨by omega,trivial⟩)]
 by_cases h:zaa p=true∧(0≤c∧c < 2)∧p.Links.On.get c=true
 ·obtain ⟨h1,h2,h3⟩:=h
  rw[if_pos ⟨h1,h2,h3⟩,Tr.rf (by rw[h1,h3];simp;omega),Tr.rg h2,Tr.rg h2,Tr.rg h2,Tr.rg h2,Tr.rg h2,Tr.rb (zze hf.waits),Tr.rb (z5g hf.queue),Tr.rb (zagn hf.queue),Tr.rl]
  rfl
 ·rw[if_neg h,Tr.rt (by
   simp only[Bool.or_eq_true,decide_eq_true_eq,Bool.not_eq_true']
   cases h1:zaa p with
   | false=>exact .inl (.inl (.inl rfl))
   | true =>
    by_cases h2:0≤c∧c < 2
    ·exact .inr (Bool.eq_false_iff.2 (fun h3=>h ⟨h1,h2,h3⟩))
    ·exact .inl (by omega)),Tr.rl]
theorem z91 {α:Type} {P:α→Prop} {a:A2 α} (h0:P (a.get 0)) (h1:P (a.get 1)) (c:Int):P (a.get c):=by
 by_cases h:c=0
 ·rw[h];exact h0
 ·have:a.get c=a.get 1:=by unfold A2.get;rw[if_neg h];rfl
  rw[this];exact h1
theorem z22 {m:Int}:∀ {l:List Power} {p:Int},(∀ q,q∈l→p < q.V∧q.V≤5∧m≤q.N∧q.N≤1125899906842624)→l.Pairwise (fun a b=>a.V < b.V)→zx m p l=true
 | [],p,_,_=>rfl
 | q::l,p,h1,h2=>by
  have hq:=h1 q (List.mem_cons_self ..)
  rw[List.pairwise_cons] at h2
  simp only[zx,yy7,decide_eq_true_eq]
  exact ⟨⟨⟨⟨hq.1,hq.2.1⟩,hq.2.2.1⟩,hq.2.2.2⟩,z22 (fun x hx=>⟨h2.1 x hx,(h1 x (List.mem_cons_of_mem _ hx)).2⟩) h2.2⟩
theorem zawz {s:Stake} (hg:GoodS s):zx 1 (-1) (setS s)=true:=by
 refine z22 (fun q hq=>?_) (zt8 _)
 obtain ⟨hv,_,hn,h1⟩:=zanf hg hq
 have:=(hg.at hv).1.1
 unfold inA at this
 omega
def GoodX (p:zb):Prop:=GoodS p.Stake∧(0≤p.Height∧0≤p.Time∧p.Time≤1099511627776)∧zx 1 (-1) p.Set=true∧z9u p 0=true∧z9u p 1=true∧p.Queue.all (zu3 p)=true
theorem goodPr_iff {p:zb}:zaa p=true↔GoodX p∧p.Height < 1099511627776:=by
 constructor
 ·intro h
  obtain ⟨a,⟨b1,b2,b3,b4⟩,c,d,e,f⟩:=zi4 h
  exact ⟨⟨a,⟨b1,b3,b4⟩,c,d,e,f⟩,b2⟩
 ·rintro ⟨⟨a,⟨b1,b3,b4⟩,c,d,e,f⟩,b2⟩
  unfold zaa
  simp only[yy7,decide_eq_true_eq]
  exact ⟨⟨⟨⟨⟨a,b1,b2,b3,b4⟩,c⟩,d⟩,e⟩,f⟩
structure LkX (p:zb) (c:Int):Prop where
 on:¬ (p.Links.On.get c=true∧p.Links.Gone.get c=true)
 b0:0≤p.Links.Base.get c
 b1:p.Links.Base.get c≤p.Height
 told:zx 1 (-1) (p.Links.Told.get c)=true
 line:zcb (zd3 p.Links c)
 done:zat (-1) (p.Links.Done.get c)=true
theorem okLk_iff {p:zb} {c:Int}:z9u p c=true↔LkX p c:=by
 unfold z9u
 simp only[yy7,decide_eq_true_eq]
 constructor
 ·rintro ⟨⟨⟨⟨⟨h1,h2⟩,h3⟩,h4⟩,h5⟩,h6⟩
  exact ⟨fun ⟨x,y⟩=>(by rw[x,y] at h1;cases h1),h2,h3,h4,h5,h6⟩
 ·rintro ⟨h1,h2,h3,h4,h5,h6⟩
  refine ⟨⟨⟨⟨⟨?_,h2⟩,h3⟩,h4⟩,h5⟩,h6⟩
  cases x:p.Links.On.get c
  ·rfl
  ·cases y:p.Links.Gone.get c
   ·rfl
   ·exact absurd ⟨x,y⟩ h1
theorem GoodX.lk {p:zb} (h:GoodX p) {c:Int} (hc:0≤c∧c < 2):LkX p c:=by
 rcases (show c=0∨c=1 by omega) with rfl | rfl
 ·exact okLk_iff.1 h.2.2.2.1
 ·exact okLk_iff.1 h.2.2.2.2.1
theorem ask_iff {p:zb} {a:Asked}:zu3 p a=true↔(0≤a.C∧a.C < 2)∧p.Links.On.get a.C=true∧zcs a.P=0∧a.P.Kind≠1:=by
 unfold zu3
 simp only[yy7,decide_eq_true_eq,beq_iff_eq,Bool.not_eq_true',beq_eq_false_iff_ne]
 constructor
 ·rintro ⟨⟨⟨⟨c0,c1⟩,c2⟩,c3⟩,c4⟩;exact ⟨⟨c0,c1⟩,c2,c3,c4⟩
 ·rintro ⟨⟨c0,c1⟩,c2,c3,c4⟩;exact ⟨⟨⟨⟨c0,c1⟩,c2⟩,c3⟩,c4⟩
theorem GoodX.ask {p:zb} (h:GoodX p) {a:Asked} (ha:a∈p.Queue):(0≤a.C∧a.C < 2)∧p.Links.On.get a.C=true∧zcs a.P=0∧a.P.Kind≠1:=ask_iff.1 (List.all_eq_true.1 h.2.2.2.2.2 a ha)
theorem fitX {p:zb} (h:GoodX p) {R:Nat} (hR:100000≤R) (hq:p.Queue.length*88≤R):FitPr R p:=by
 have l0:=h.lk (c:=0) (by omega)
 have l1:=h.lk (c:=1) (by omega)
 have lp:∀ {l:List Power},zx 1 (-1) l=true→l.length*16≤R:=fun hl=>by have:=zjc hl (by omega);omega
 have ld:∀ {l:List Int},zat (-1) l=true→l.length*8≤R:=fun hl=>by have:=z03 hl;omega
 have lS:∀ {c:Int},LkX p c→(p.Links.Said.get c).length≤400∧(p.Links.Due.get c).length≤400:=by
  intro c l
  have e1:(p.Links.Said.get c).length=(p.Links.Due.get c).length:=l.line.1
  have e2:(p.Links.Said.get c).length≤400:=l.line.2.1
  omega
 have s0:=lS l0
 have s1:=lS l1
 have hw:p.Stake.Waits.length≤60:=h.1.2.1.2.2
 have t0:=lp l0.told;have t1:=lp l1.told;have d0:=ld l0.done;have d1:=ld l1.done
 have hset:=lp h.2.2.1
 have hask:=fun a ha=>z21 (h.ask (a:=a) ha).2.2.1
 have hw':p.Stake.Waits.length*64≤R:=by omega
 have a0:(p.Links.Said.get 0).length*16≤R:=by omega
 have a1:(p.Links.Said.get 1).length*16≤R:=by omega
 have b0:(p.Links.Due.get 0).length*8≤R:=by omega
 have b1:(p.Links.Due.get 1).length*8≤R:=by omega
 have hps:∀ a,a∈p.Queue→a.P.Set.length*16≤R∧a.P.Done.length*8≤R:=fun a ha=>by have:=hask a ha;omega
 exact ⟨hw',hset,fun c=>z91 (P:=fun l:List Power=>l.length*16≤R) (a:=p.Links.Told) t0 t1 c,fun c=>z91 (P:=fun l:List Int=>l.length*8≤R) (a:=p.Links.Done) d0 d1 c,
  fun c=>z91 (P:=fun l:List ByteArray=>l.length*16≤R) (a:=p.Links.Said) a0 a1 c,fun c=>z91 (P:=fun l:List Int=>l.length*8≤R) (a:=p.Links.Due) b0 b1 c,hq,hps⟩
theorem zago {l:zi6} {s:ByteArray} {u:Int} (h:zcb l) (hu:0≤u):zcb (z67 l s u).1:=by
 unfold z67
 rw[if_neg (by rintro (k | k);exact k h;omega)]
 split
 ·exact h
 ·split
  ·exact h
  ·rename_i h4
   obtain ⟨g1,g2,g3,g4,g5⟩:=h
   refine ⟨by simp[g1],by simp only[yy6,yy5];omega,g3,by simp only[yy6,yy5];omega,?_⟩
   simp only[List.any_append,g5,Bool.false_or,List.any_cons,List.any_nil,Bool.or_false,yy8]
   omega
theorem z04 {p:zb} (hg:zaa p=true) (now:Int):∃ S D M,(zbp p now).1=upP (zhg p now) S D M∧GoodS S∧(∀ c:Int,zat (-1) (D.get c)=true)∧(zbp p now).2.2.length≤p.Queue.length∧∀ b,b∈(zbp p now).2.2→b∈p.Queue:=by
 obtain ⟨⟨S,D,M,e,hS,d0,d1⟩,hq2,hq3,hq4⟩:=zub (now:=now) hg
 exact ⟨S,D,M,e,hS,z91 (P:=fun l=>zat (-1) l=true) d0 d1,hq2,hq4⟩
theorem z92 {p:zb} (hg:zaa p=true) {now:Int} (hn:p.Time≤now∧now≤1099511627776):GoodX (zmi p now):=by
 obtain ⟨S,D,M,e,hS,hd,hl,hm⟩:=z04 hg now
 have hx:=(goodPr_iff.1 hg).1
 have hp:=zaec hS now
 have hn0:=hx.2.1
 unfold zmi
 rw[e]
 refine ⟨hp,⟨by show 0≤p.Height+1;omega,by show 0≤now;omega,hn.2⟩,zawz hp,okLk_iff.2 ?_,okLk_iff.2 ?_,List.all_eq_true.2 fun b hb=>?_⟩
 ·obtain ⟨a1,a2,a3,a4,a5,a6⟩:=hx.lk (c:=0) (by omega)
  exact ⟨a1,a2,by show p.Links.Base.get 0≤p.Height+1;omega,a4,a5,hd 0⟩
 ·obtain ⟨a1,a2,a3,a4,a5,a6⟩:=hx.lk (c:=1) (by omega)
  exact ⟨a1,a2,by show p.Links.Base.get 1≤p.Height+1;omega,a4,a5,hd 1⟩
 ·exact ask_iff.2 (hx.ask (hm b hb))
theorem zq2 (p:zb) (c now:Int):(zdn p c now).Height=p.Height∧(zdn p c now).Time=p.Time∧(zdn p c now).Stake=p.Stake∧(zdn p c now).Set=p.Set∧(zdn p c now).Meter=p.Meter∧(zdn p c now).Queue=p.Queue ∧
  (zdn p c now).Links.On=p.Links.On∧(zdn p c now).Links.Gone=p.Links.Gone∧(zdn p c now).Links.Base=p.Links.Base∧(zdn p c now).Links.SHeight=p.Links.SHeight∧(zdn p c now).Links.STime=p.Links.STime∧(zdn p c now).Links.SSaid=p.Links.SSaid∧(zdn p c now).Links.SGot=p.Links.SGot:=by
 unfold zdn
 repeat' split
 all_goals exact ⟨rfl,rfl,rfl,rfl,rfl,rfl,rfl,rfl,rfl,rfl,rfl,rfl,rfl⟩
theorem z5h {p:zb} {c j now:Int} (hc:0≤c∧c < 2) (hj:0≤j∧j < 2) (h:j≠c):(zdn p c now).Links.Told.get j=p.Links.Told.get j∧(zdn p c now).Links.Fresh.get j=p.Links.Fresh.get j∧(zdn p c now).Links.Done.get j=p.Links.Done.get j∧zd3 (zdn p c now).Links j=zd3 p.Links j:=by
 unfold zdn
 repeat' split
 ·exact ⟨rfl,rfl,rfl,rfl⟩
 ·exact ⟨rfl,rfl,rfl,rfl⟩
 ·exact ⟨rfl,rfl,rfl,rfl⟩
 ·unfold zanr zd3
  simp only[zao _ _ hc hj,if_neg h]
  exact ⟨trivial,trivial,trivial,trivial⟩
theorem zaw0 {p:zb} {c:Int} (hs:zx 1 (-1) p.Set=true):zx 0 (-1) (dOf p c)=true:=by
  have hb:∀ v:Nat,0≤fP p.Set v∧fP p.Set v≤1125899906842624:=by
    intro v
    unfold fP
    have hm:=znj (by omega) hs (by omega)
    revert hm
    generalize p.Set=l
    intro hm
    induction l with
    | nil=>simp[zb8]
    | cons q l ih =>
      simp only[zb8]
      split
      · have:=hm q (List.mem_cons_self ..);omega
      · exact ih (fun q hq=>hm q (List.mem_cons_of_mem _ hq))
  unfold dOf
  generalize fP p.Set=g at hb
  generalize fP (p.Links.Told.get c)=f
  have hm:∀ q,q∈zoq f g→∃ v:Nat,v < 6∧q=⟨v,g v⟩:=by
    intro q hq
    rw[zt2] at hq
    simp only[List.mem_append,List.not_mem_nil,or_false] at hq
    have key:∀ v:Nat,v < 6→q∈zz4 (v:Int) (g v) (f v)→∃ v:Nat,v < 6∧q=⟨v,g v⟩:=by
      intro v hv h
      unfold zz4 at h
      split at h
      · exact ⟨v,hv,List.mem_singleton.1 h⟩
      · cases h
    rcases hq with h | h | h | h | h | h
    · exact key 0 (by omega) h
    · exact key 1 (by omega) h
    · exact key 2 (by omega) h
    · exact key 3 (by omega) h
    · exact key 4 (by omega) h
    · exact key 5 (by omega) h
  refine z22 (fun q hq=>?_) ?_
  · obtain ⟨v,hv,rfl⟩:=hm q hq
    have:=hb v
    refine ⟨by show (-1:Int) < (v:Int);omega,by show (v:Int)≤5;omega,this.1,this.2⟩
  · rw[zt2]
    have one:∀ (v:Int) (x y:Int),(zz4 v x y).Pairwise (fun a b=>a.V < b.V):=by
      intro v x y;unfold zz4;split
      · exact List.pairwise_singleton ..
      · exact .nil
    have mem:∀ {v x y:Int} {q:Power},q∈zz4 v x y→q.V=v:=by
      intro v x y q h;unfold zz4 at h;split at h
      · rw[List.mem_singleton.1 h]
      · cases h
    refine List.pairwise_append.2 ⟨one _ _ _,List.pairwise_append.2 ⟨one _ _ _,List.pairwise_append.2 ⟨one _ _ _,List.pairwise_append.2 ⟨one _ _ _,List.pairwise_append.2 ⟨one _ _ _,List.pairwise_append.2 ⟨one _ _ _,.nil,?_⟩,?_⟩,?_⟩,?_⟩,?_⟩,?_⟩
    all_goals
      intro a ha b hb
      have k:=mem ha
      first
      | (exfalso;cases hb;done)
      | (simp only[List.mem_append,List.not_mem_nil,or_false] at hb
         first
         | (rcases hb with h | h | h | h | h<;>have:=mem h<;>omega)
         | (rcases hb with h | h | h | h<;>have:=mem h<;>omega)
         | (rcases hb with h | h | h<;>have:=mem h<;>omega)
         | (rcases hb with h | h<;>have:=mem h<;>omega)
         | (have:=mem hb;omega))
theorem zaj9 {p:zb} {c:Int} (hs:zx 1 (-1) p.Set=true) (hd:zat (-1) (p.Links.Done.get c)=true) (hH:1≤p.Height∧p.Height≤1099511627776):zcs (pkOf p c)=0:=by
 unfold zcs pkOf
 simp only[]
 rw[if_neg (by omega),if_neg (by omega),if_neg (by omega),zaw0 hs,hd]
 rfl
theorem zant {p:zb} {c now:Int} (h:GoodX p) (hc:0≤c∧c < 2) (hH:1≤p.Height∧p.Height≤1099511627776) (hn:0≤now) :
  (zdn p c now=p∧(zz8 p c∨p.Links.Closed.get c=true∨400≤(p.Links.Said.get c).length)) ∨
  (¬ zz8 p c∧p.Links.Closed.get c=false∧(p.Links.Said.get c).length < 400∧(zdn p c now).Links={ p.Links with Told:=p.Links.Told.set c p.Set,Fresh:=p.Links.Fresh.set c false,Done:=p.Links.Done.set c [],Said:=p.Links.Said.set c (p.Links.Said.get c++[txt (znb (pkOf p c))]),Due:=p.Links.Due.set c (p.Links.Due.get c++[now+40]) }):=by
 have lk:=h.lk hc
 have hg:=zaj9 (c:=c) h.2.2.1 lk.done hH
 unfold zdn
 by_cases hq:zz8 p c
 ·rw[if_pos hq];exact .inl ⟨rfl,.inl hq⟩
 ·rw[if_neg hq,zly hg,if_neg (by simp)]
  have hu:¬ (¬ zcb (zd3 p.Links c)∨now+40 < 0):=by rintro (k | k);exact k lk.line;omega
  cases hcl:p.Links.Closed.get c with
  | true =>
   have:zoy p c now=(zd3 p.Links c,11):=by unfold zoy z67;rw[if_neg hu,if_pos hcl]
   rw[this,if_pos (by simp)];exact .inl ⟨rfl,.inr (.inl rfl)⟩
  | false =>
   by_cases h4:400≤(p.Links.Said.get c).length
   ·have:zoy p c now=(zd3 p.Links c,6):=by unfold zoy z67;rw[if_neg hu,if_neg (by simp[hcl]),if_pos h4]
    rw[this,if_pos (by simp)];exact .inl ⟨rfl,.inr (.inr h4)⟩
   ·have e:zoy p c now=(⟨p.Links.Said.get c++[txt (znb (pkOf p c))],p.Links.Due.get c++[now+40],p.Links.Got.get c,p.Links.Closed.get c⟩,0):=by
     unfold zoy z67;rw[if_neg hu,if_neg (by simp[hcl]),if_neg h4,zly hg]
    rw[if_neg (by rw[e];simp)]
    refine .inr ⟨hq,rfl,by omega,?_⟩
    unfold zanr
    rw[e]
    simp only[zos _ hc]
theorem z23 {p:zb} {c now:Int} (h:GoodX p) (hc:0≤c∧c < 2) (hn:0≤now):GoodX (zdn p c now):=by
 unfold zdn
 repeat' split
 ·exact h
 ·exact h
 ·exact h
 ·have hlk:∀ j:Int,0≤j∧j < 2→LkX (zanr p c now) j:=by
   intro j hj
   obtain ⟨a1,a2,a3,a4,a5,a6⟩:=h.lk hj
   by_cases e:j=c
   ·subst e
    refine ⟨a1,a2,a3,?_,?_,?_⟩
    ·show zx 1 (-1) ((p.Links.Told.set j p.Set).get j)=true
     rw[zao _ _ hj hj,if_pos rfl];exact h.2.2.1
    ·show zcb ⟨(p.Links.Said.set j (zoy p j now).1.Said).get j,(p.Links.Due.set j (zoy p j now).1.Due).get j,(p.Links.Got.set j (zoy p j now).1.Got).get j,(p.Links.Closed.set j (zoy p j now).1.Closed).get j⟩
     simp only[zao _ _ hj hj,if_pos]
     refine zago a5 ?_
     have:0≤now:=hn
     omega
    ·show zat (-1) ((p.Links.Done.set j []).get j)=true
     rw[zao _ _ hj hj,if_pos rfl];rfl
   ·refine ⟨a1,a2,a3,?_,?_,?_⟩
    ·show zx 1 (-1) ((p.Links.Told.set c p.Set).get j)=true
     rw[zao _ _ hc hj,if_neg e];exact a4
    ·show zcb ⟨(p.Links.Said.set c (zoy p c now).1.Said).get j,(p.Links.Due.set c (zoy p c now).1.Due).get j,(p.Links.Got.set c (zoy p c now).1.Got).get j,(p.Links.Closed.set c (zoy p c now).1.Closed).get j⟩
     simp only[zao _ _ hc hj,if_neg e]
     exact a5
    ·show zat (-1) ((p.Links.Done.set c []).get j)=true
     rw[zao _ _ hc hj,if_neg e];exact a6
  exact ⟨h.1,h.2.1,h.2.2.1,okLk_iff.2 (hlk 0 (by omega)),okLk_iff.2 (hlk 1 (by omega)),h.2.2.2.2.2⟩
theorem zanu {p:zb} (hg:zaa p=true) {now:Int} (hn:p.Time≤now∧now≤1099511627776):GoodX (ze9 p now).1:=by
 unfold ze9
 rw[if_pos ⟨hg,hn⟩]
 have h0:=(goodPr_iff.1 hg).1.2.1
 exact z23 (z23 (z92 hg hn) (by omega) (by omega)) (by omega) (by omega)
theorem z93 {p:zb} (hg:zaa p=true) {c:Int} (hc:0≤c∧c < 2):zaa (zpi p c)=true:=by
 obtain ⟨hx,hH⟩:=goodPr_iff.1 hg
 have hlk:∀ j:Int,0≤j∧j < 2→LkX (zpi p c) j:=by
  intro j hj
  obtain ⟨a1,a2,a3,a4,a5,a6⟩:=hx.lk hj
  refine ⟨?_,a2,a3,a4,a5,?_⟩
  ·show ¬ ((p.Links.On.set c false).get j=true∧(p.Links.Gone.set c true).get j=true)
   rw[zao _ _ hc hj,zao _ _ hc hj]
   by_cases e:j=c
   ·rw[if_pos e];simp
   ·rw[if_neg e,if_neg e];exact a1
  ·show zat (-1) ((p.Links.Done.set c []).get j)=true
   rw[zao _ _ hc hj]
   by_cases e:j=c
   ·rw[if_pos e];rfl
   ·rw[if_neg e];exact a6
 refine goodPr_iff.2 ⟨⟨zz6 hx.1,hx.2.1,hx.2.2.1,okLk_iff.2 (hlk 0 (by omega)),okLk_iff.2 (hlk 1 (by omega)),List.all_eq_true.2 fun b hb=>ask_iff.2 ?_⟩,hH⟩
 obtain ⟨h1,h2⟩:=List.mem_filter.1 hb
 obtain ⟨q1,q2,q3,q4⟩:=hx.ask h1
 refine ⟨q1,?_,q3,q4⟩
 show (p.Links.On.set c false).get b.C=true
 rw[zao _ _ hc q1,if_neg (by simpa[zz9] using h2)]
 exact q2
theorem zacr {p:zb} {now:Int} (h:zaa p=true∧p.Time≤now∧now≤1099511627776):(ze9 p now).2.2=0:=by unfold ze9;rw[if_pos h]
theorem zin {p:zb} {now:Int} (h:zaa p=true∧p.Time≤now∧now≤1099511627776) :
  (ze9 p now).1.Height=p.Height+1∧(ze9 p now).1.Time=now∧(ze9 p now).1.Stake=(z4a (zbp p now).1.Stake now).1∧(ze9 p now).1.Set=setS (z4a (zbp p now).1.Stake now).1∧(ze9 p now).1.Queue=(zbp p now).2.2 ∧
  (ze9 p now).1.Links.On=p.Links.On∧(ze9 p now).1.Links.Gone=p.Links.Gone∧(ze9 p now).1.Links.Base=p.Links.Base:=by
 unfold ze9
 rw[if_pos h]
 obtain ⟨S,D,M,e,-⟩:=z04 h.1 now
 obtain ⟨a1,a2,a3,a4,a5,a6,a7,a8,a9,-⟩:=zq2 (zdn (zmi p now) 0 now) 1 now
 obtain ⟨b1,b2,b3,b4,b5,b6,b7,b8,b9,-⟩:=zq2 (zmi p now) 0 now
 simp only[a1,a2,a3,a4,a6,a7,a8,a9,b1,b2,b3,b4,b6,b7,b8,b9]
 refine ⟨?_,?_,rfl,rfl,rfl,?_,?_,?_⟩
 all_goals
  unfold zmi
  rw[e]
  rfl
theorem zanv {s:Stake} (hg:GoodS s) (t:Int):(z4a s t).1.Validators=s.Validators:=by rw[z7o hg]
def zaw1 (on fresh:Bool) (told:List Power) (D:List Int) (l:zi6) (H now:Int) (set told':List Power) (D':List Int) (fresh':Bool) (l':zi6):Prop :=
 (told'=told∧D'=D∧fresh'=fresh∧l'=l∧(on=false∨(zoq (fP told) (fP set)=[]∧D=[]∧fresh=false)∨l.Closed=true∨400≤l.Said.length)) ∨
 (told'=set∧D'=[]∧fresh'=false∧on=true∧l.Closed=false∧l.Said.length < 400∧¬ (zoq (fP told) (fP set)=[]∧D=[]∧fresh=false)∧zcs ⟨1,H,0,0,zoq (fP told) (fP set),D⟩=0 ∧
  l'=⟨l.Said++[txt (znb ⟨1,H,0,0,zoq (fP told) (fP set),D⟩)],l.Due++[now+40],l.Got,l.Closed⟩)
theorem z94 {p:zb} {c now:Int} (h:GoodX p) (hc:0≤c∧c < 2) (hH:1≤p.Height∧p.Height≤1099511627776) (hn:0≤now) :
  zaw1 (p.Links.On.get c) (p.Links.Fresh.get c) (p.Links.Told.get c) (p.Links.Done.get c) (zd3 p.Links c) p.Height now p.Set ((zdn p c now).Links.Told.get c) ((zdn p c now).Links.Done.get c) ((zdn p c now).Links.Fresh.get c) (zd3 (zdn p c now).Links c):=by
 rcases zant h hc hH hn with ⟨e,h1⟩ | ⟨h1,h2,h3,e⟩
 ·rw[e]
  refine .inl ⟨rfl,rfl,rfl,rfl,?_⟩
  rcases h1 with (h1 | h1) | h1 | h1
  ·exact .inl h1
  ·exact .inr (.inl h1)
  ·exact .inr (.inr (.inl h1))
  ·exact .inr (.inr (.inr h1))
 ·rw[e]
  have on:p.Links.On.get c=true:=by
   cases o:p.Links.On.get c with
   | true=>rfl
   | false=>exact absurd (.inl o) h1
  refine .inr ⟨?_,?_,?_,on,h2,h3,fun k=>h1 (.inr k),zaj9 h.2.2.1 (h.lk hc).done hH,?_⟩
  ·simp only[zao _ _ hc hc,if_pos]
  ·simp only[zao _ _ hc hc,if_pos]
  ·simp only[zao _ _ hc hc,if_pos]
  ·unfold zd3
   simp only[zao _ _ hc hc,if_pos]
   rfl
theorem zaka {p:zb} (hg:zaa p=true) (now:Int):(zmi p now).Height=p.Height+1∧(zmi p now).Links.On=p.Links.On∧(zmi p now).Links.Fresh=p.Links.Fresh∧(zmi p now).Links.Told=p.Links.Told∧(∀ c,zd3 (zmi p now).Links c=zd3 p.Links c):=by
 obtain ⟨S,D,M,e,-⟩:=z04 hg now
 unfold zmi
 rw[e]
 exact ⟨rfl,rfl,rfl,rfl,fun _=>rfl⟩
theorem zsd {p:zb} {now:Int} (h:zaa p=true∧p.Time≤now∧now≤1099511627776) {c:Int} (hc:0≤c∧c < 2) :
  ∃ D,D=(zmi p now).Links.Done.get c∧zaw1 (p.Links.On.get c) (p.Links.Fresh.get c) (p.Links.Told.get c) D (zd3 p.Links c) (ze9 p now).1.Height now (ze9 p now).1.Set ((ze9 p now).1.Links.Told.get c) ((ze9 p now).1.Links.Done.get c) ((ze9 p now).1.Links.Fresh.get c) (zd3 (ze9 p now).1.Links c):=by
 obtain ⟨hx,hH⟩:=goodPr_iff.1 h.1
 have hn:0≤now:=by have:=hx.2.1.2.1;omega
 have h0:=hx.2.1.1
 have g0:=z92 h.1 h.2
 have g1:=z23 (c:=0) g0 (by omega) hn
 obtain ⟨p1,p2,p3,p4,p5⟩:=zaka h.1 now
 obtain ⟨a1,a2,a3,a4,a5,a6,a7,a8,a9,-⟩:=zq2 (zdn (zmi p now) 0 now) 1 now
 obtain ⟨b1,b2,b3,b4,b5,b6,b7,b8,b9,-⟩:=zq2 (zmi p now) 0 now
 refine ⟨_,rfl,?_⟩
 unfold ze9
 rw[if_pos h]
 simp only[]
 rw[a1,a4,b1,b4,← p2,← p3,← p4,← p5 c]
 rcases (show c=0∨c=1 by omega) with rfl | rfl
 ·obtain ⟨t1,t2,t3,t4⟩:=z5h (p:=zdn (zmi p now) 0 now) (c:=1) (j:=0) (now:=now) (by omega) (by omega) (by omega)
  rw[t1,t2,t3,t4]
  exact z94 g0 hc (by omega) hn
 ·obtain ⟨t1,t2,t3,t4⟩:=z5h (p:=zmi p now) (c:=0) (j:=1) (now:=now) (by omega) (by omega) (by omega)
  have:=z94 (c:=1) (now:=now) g1 hc (by rw[b1];omega) hn
  rw[b7,t1,t2,t3,t4,b1,b4] at this
  exact this
theorem z0a (s:Stake):zec (fP (setS s))=setS s:=by
 have nn:∀ v,0≤z74 (cutF (nvF s)) v∨True:=fun _=>.inr trivial
 show zec (fP (zec (z74 (nvF s))))=zec (z74 (nvF s))
 have key:∀ f:Nat→Int,zec (fP (zec f))=zec f:=by
  intro f
  have e:zec f=zec (fun v=>if 0 < f v then f v else 0):=by
   rw[zr0,zr0]
   have:∀ (w:Int) (n:Int),zq5 w n=zq5 w (if 0 < n then n else 0):=by
    intro w n
    unfold zq5
    by_cases h:0 < n
    ·rw[if_pos h,if_pos h,if_pos h]
    ·rw[if_neg h,if_neg h];rfl
   rw[this _ (f 0),this _ (f 1),this _ (f 2),this _ (f 3),this _ (f 4),this _ (f 5)]
  rw[e]
  exact zr1 fun v hv=>zab3 (fun v=>by show 0≤if 0 < f v then f v else 0;split<;>omega) hv
 exact key _
theorem zaet {told set:List Power} (hs:zec (fP set)=set):zsp told (zoq (fP told) (fP set))=set:=by
 unfold zsp
 have:∀ v:Nat,v < 6→zx5 (zoq (fP told) (fP set)) v (zb8 told v)=fP set v:=fun v hv=>zafv (f:=fP told) (g:=fP set) hv
 rw[zr1 this,hs]
theorem zk4 {C:zc1} {i j:Int} (hi:0≤i∧i < 2) (hj:0≤j∧j < 2) (c:Consumer):za (zjh C i c) j=if j=i then c else za C j:=by
 unfold za zjh
 simp only[zao _ _ hi hj]
 by_cases e:j=i
 ·simp only[if_pos e]
 ·simp only[if_neg e]
theorem zap {C:zc1} {i:Int} (hi:0≤i∧i < 2) (c:Consumer):za (zjh C i c) i=c:=by rw[zk4 hi hi,if_pos rfl]
theorem z5 {C:zc1} {i j:Int} (hi:0≤i∧i < 2) (hj:0≤j∧j < 2) (h:j≠i) (c:Consumer):za (zjh C i c) j=za C j:=by rw[zk4 hi hj,if_neg h]
theorem z95 {C:zc1} {i:Int} (hi:0≤i∧i < 2):zjh C i (za C i)=C:=by
 unfold za zjh
 simp only[zos _ hi]
def zyf (L:Links) (i:Int) (l:zi6):Links:={ L with Said:=L.Said.set i l.Said,Due:=L.Due.set i l.Due,Got:=L.Got.set i l.Got,Closed:=L.Closed.set i l.Closed }
def zzk (L:Links) (i:Int) (h:Head):Links:={ L with SHeight:=L.SHeight.set i h.Height,STime:=L.STime.set i h.Time,SSaid:=L.SSaid.set i h.Said,SGot:=L.SGot.set i h.Got }
theorem zhb {L:Links} {i j:Int} (hi:0≤i∧i < 2) (hj:0≤j∧j < 2) (l:zi6):zc (zyf L i l) j=if j=i then { zc L j with Out:=l } else zc L j:=by
 unfold zc zyf
 simp only[zao _ _ hi hj]
 by_cases e:j=i
 ·simp only[if_pos e]
 ·simp only[if_neg e]
theorem zgv {L:Links} {i j:Int} (hi:0≤i∧i < 2) (hj:0≤j∧j < 2) (h:Head):zc (zzk L i h) j=if j=i then { zc L j with Seen:=h } else zc L j:=by
 unfold zc zzk
 simp only[zao _ _ hi hj]
 by_cases e:j=i
 ·simp only[if_pos e]
 ·simp only[if_neg e]
theorem zww (L:Links) (i:Int):zd3 L i=(zc L i).Out:=rfl
def noW (w:Wld) (e:Int):Wld×Reply:=(w,⟨e,0⟩)
def zakb (h:zuw) (p:zb) (C:zc1):zuw :=
 { h with PHeight:=⟨p.Height,p.Height⟩,PTime:=⟨p.Time,p.Time⟩,PSaid:=⟨((p.Links.Said.x0.length:Nat):Int),((p.Links.Said.x1.length:Nat):Int)⟩,PGot:=C.Got }
def zaw2 (h:zuw) (i:Int) (c:Consumer) (got:Int):zuw :=
 { h with CHeight:=h.CHeight.set i c.Height,CTime:=h.CTime.set i c.Time,CSaid:=h.CSaid.set i ((c.Out.Said.length:Nat):Int),CGot:=h.CGot.set i got }
def zapb (h:zuw) (i:Int):zuw :=
 ⟨h.PHeight.set i 0,h.PTime.set i 0,h.PSaid.set i 0,h.PGot.set i 0,h.CHeight.set i 0,h.CTime.set i 0,h.CSaid.set i 0,h.CGot.set i 0⟩
def zyg (h:zuw) (i:Int):Head:=⟨h.PHeight.get i,h.PTime.get i,h.PSaid.get i,h.PGot.get i⟩
def z4d (h:zuw) (i:Int):Head:=⟨h.CHeight.get i,h.CTime.get i,h.CSaid.get i,h.CGot.get i⟩
def zka (w:Wld):Wld×Reply :=
 if (ze9 w.p w.clock).2.2≠0 then noW w (ze9 w.p w.clock).2.2
 else ({ w with p:=(ze9 w.p w.clock).1,heads:=zakb w.heads (ze9 w.p w.clock).1 w.consumers },⟨0,(((ze9 w.p w.clock).2.1.length:Nat):Int)⟩)
def z0b (w:Wld) (i:Int):Wld×Reply :=
 if (zdw w.p i).2≠0 then noW w (zdw w.p i).2
 else ({ w with p:=(zdw w.p i).1,consumers:=zjh w.consumers i (zje (zdw w.p i).1.Set (zdw w.p i).1.Height w.clock),heads:=zapb w.heads i },⟨0,(zdw w.p i).1.Height⟩)
def zne (w:Wld) (i:Int):Wld×Reply :=
 if (zt9 w.clock (za w.consumers i)).2≠0 then noW w (zt9 w.clock (za w.consumers i)).2
 else ({ w with consumers:=zjh w.consumers i (zt9 w.clock (za w.consumers i)).1,heads:=zaw2 w.heads i (zt9 w.clock (za w.consumers i)).1 (w.p.Links.Got.get i) },⟨0,0⟩)
def z24 (w:Wld) (i:Int) (back:Bool):Wld×Reply :=
 if back=true then ({ w with p:={ w.p with Links:=zzk w.p.Links i (z4d w.heads i) } },⟨0,0⟩)
 else ({ w with consumers:=zjh w.consumers i { za w.consumers i with Seen:=zyg w.heads i } },⟨0,0⟩)
def zakc (n:Nat):Packet:=⟨3,1,0,i64.wrap (1+(n:Int)),[],[]⟩
def z96 (l:zi6):ByteArray:=if l.Got < ((l.Said.length:Nat):Int) then l.Said.getD l.Got.toNat .empty else (⟨#[]⟩:ByteArray)
def zeh (l:zi6) (forged:Bool):ByteArray:=if forged=true then (zgu (zakc (z96 l).size)).1 else z96 l
def zav (w:Wld) (i:Int) (back:Bool):zi6:=if back=true then (za w.consumers i).Out else (zc w.p.Links i).Out
def z25 (w:Wld) (i:Int) (back:Bool):Int:=if back=true then w.p.Links.SSaid.get i else w.consumers.SSaid.get i
def zhc (w:Wld) (d:Deed):zi6×Int:=zj7 (zav w d.C d.Back) (i64.wrap ((zav w d.C d.Back).Got+1)) (zeh (zav w d.C d.Back) d.Forged) (z25 w d.C d.Back) w.clock
def zhd (w:Wld) (d:Deed):Wld×Reply :=
  if (zhc w d).2≠0 then noW w (zhc w d).2
  else if d.Back=true then
    (if (zif w.p d.C (zeh (zav w d.C d.Back) d.Forged).data.toList).2≠0 then noW w (zif w.p d.C (zeh (zav w d.C d.Back) d.Forged).data.toList).2
     else ({ w with p:=(zif w.p d.C (zeh (zav w d.C d.Back) d.Forged).data.toList).1,consumers:=zjh w.consumers d.C { za w.consumers d.C with Out:=(zhc w d).1 } },⟨0,(zhc w d).1.Got⟩))
  else (if (zox (za w.consumers d.C) (zeh (zav w d.C d.Back) d.Forged).data.toList).2≠0 then noW w (zox (za w.consumers d.C) (zeh (zav w d.C d.Back) d.Forged).data.toList).2
     else ({ w with p:={ w.p with Links:=zyf w.p.Links d.C (zhc w d).1 },consumers:=zjh w.consumers d.C (zox (za w.consumers d.C) (zeh (zav w d.C d.Back) d.Forged).data.toList).1 },⟨0,(zhc w d).1.Got⟩))
def zzl (w:Wld) (d:Deed):zi6×Int:=if d.Back=true then zp8 (za w.consumers d.C).Out d.N (w.consumers.STime.get d.C) (w.consumers.SGot.get d.C) else zp8 (zc w.p.Links d.C).Out d.N (w.p.Links.STime.get d.C) (w.p.Links.SGot.get d.C)
def zqb (w:Wld) (d:Deed):Wld×Reply :=
 if (zzl w d).2≠0 then noW w (zzl w d).2 else ({ w with p:=znd w.p d.C,consumers:=zjh w.consumers d.C (zsa (za w.consumers d.C)) },⟨0,0⟩)
def putW (w:Wld) (i:Int) (r:Consumer×Int):Wld×Reply:=if r.2≠0 then noW w r.2 else ({ w with consumers:=zjh w.consumers i r.1 },⟨0,0⟩)
def znf (w:Wld) (d:Deed):Wld×Reply :=
 if d.Kind < 4∨12 < d.Kind then noW w 3 else if d.C < 0∨2≤d.C then noW w 4 else if d.Kind≠4∧w.consumers.On.get d.C=false then noW w 4
 else if d.Kind=4 then z0b w d.C else if d.Kind=7 then zne w d.C else if d.Kind=8 then z24 w d.C d.Back else if d.Kind=9 then zhd w d else if d.Kind=10 then zqb w d
 else if d.Kind=11 then putW w d.C (z2w (za w.consumers d.C) d.V w.clock) else if d.Kind=12 then putW w d.C (zqa (za w.consumers d.C) d.V d.N w.clock) else (w,⟨0,0⟩)
def zqc (w:Wld) (r:zb×Int):Wld×Reply:=if r.2≠0 then noW w r.2 else ({ w with p:=r.1 },⟨0,0⟩)
def zaeu (p:zb) (v:Int):zb×Int:=({ p with Stake:=(za8 p.Stake v 1).1 },(za8 p.Stake v 1).2)
def z97 (w:Wld) (n:Int):Wld×Reply:=if n < 1∨1099511627736 - w.clock < n then noW w 2 else ({ w with clock:=w.clock+n },⟨0,w.clock+n⟩)
def actW (w:Wld) (d:Deed):Wld×Reply :=
 if d.Kind=1 then zqc w (zcy w.p d.D d.V d.N) else if d.Kind=2 then zqc w (zcr w.p d.D d.V d.N w.clock) else if d.Kind=3 then zqc w (zaeu w.p d.V) else if d.Kind=13 then zqc w (zuc w.p d.V d.N)
 else if d.Kind=5 then z97 w d.N else if d.Kind=6 then zka w else znf w d
def zr (w:Wld):Wld:={ w with deeds:=w.deeds+1 }
def doW (w:Wld) (d:Deed):Wld×Reply:=if 600≤w.deeds then noW w 6 else actW (zr w) d
def newW:Wld:=⟨0,z9w,default,default,0⟩
def Pk1 (s:ByteArray):Prop:=∃ q,zcs q=0∧q.Kind=1∧s=txt (znb q)
def PkB (s:ByteArray):Prop:=∃ q,zcs q=0∧q.Kind≠1∧s=txt (znb q)
structure ConsW (w:Wld) (i:Int):Prop where
 good:zjg (za w.consumers i)=true
 height:(za w.consumers i).Height≤w.deeds
 time:(za w.consumers i).Time≤w.clock
 size:(((za w.consumers i).Pending.length+(za w.consumers i).Ripes.length:Nat):Int)≤w.deeds
 on:(za w.consumers i).On=w.p.Links.On.get i
 gone:(za w.consumers i).Gone=w.p.Links.Gone.get i
 told:∀ s,s∈(zc w.p.Links i).Out.Said→Pk1 s
 said:∀ s,s∈(za w.consumers i).Out.Said→PkB s
 fresh:w.p.Links.On.get i=false→w.p.Links.Gone.get i=false→za w.consumers i=default∧(zc w.p.Links i).Out.Said=[]
structure OkW (w:Wld):Prop where
 d0:0≤w.deeds
 d1:w.deeds≤600
 t0:0≤w.clock
 t1:w.clock≤1099511627736
 p:GoodX w.p
 ph:w.p.Height≤w.deeds
 pt:w.p.Time≤w.clock
 pq:((w.p.Queue.length:Nat):Int)≤w.deeds
 c:∀ i:Int,0≤i∧i < 2→ConsW w i
theorem OkW.pr {w:Wld} (h:OkW w):zaa w.p=true:=goodPr_iff.2 ⟨h.p,by have:=h.ph;have:=h.d1;omega⟩
theorem OkW.fit {w:Wld} (h:OkW w):FitPr 140737488351232 w.p:=fitX h.p (by omega) (by have:=h.pq;have:=h.d1;omega)
theorem zash {c:Consumer} (h:zjg c=true) {n:Nat} (hn:n≤1000000) (hs:c.Pending.length+c.Ripes.length≤n):FitC 140737488351232 c:=by
 obtain ⟨g1,g2,g3,g4,g5⟩:=zas h
 have e1:=zjc g3 (by omega)
 have e2:c.Out.Said.length=c.Out.Due.length:=g2.1
 have e3:c.Out.Said.length≤400:=g2.2.1
 exact ⟨by omega,by omega,by omega,by omega,by omega,fun p hp=>by have:=z21 (z2v g5 p hp).1;omega⟩
theorem ConsW.fit {w:Wld} {i:Int} (h:ConsW w i) (hd:w.deeds≤600):FitC 140737488351232 (za w.consumers i) :=
 zash h.good (n:=600) (by omega) (by have:=h.size;omega)
structure SameL (p q:zb) (i:Int):Prop where
 on:p.Links.On.get i=q.Links.On.get i
 gone:p.Links.Gone.get i=q.Links.Gone.get i
 said:(zc p.Links i).Out.Said=(zc q.Links i).Out.Said
theorem SameL.refl (p:zb) (i:Int):SameL p p i:=⟨rfl,rfl,rfl⟩
theorem SameL.of {p q:zb} {i:Int} (h:zc p.Links i=zc q.Links i):SameL p q i:=⟨congrArg Link.On h,congrArg Link.Gone h,by rw[h]⟩
theorem ConsW.more {w w':Wld} {i:Int} (h:ConsW w i) (hc:za w'.consumers i=za w.consumers i) (hl:SameL w'.p w.p i) (hd:w.deeds≤w'.deeds) (ht:w.clock≤w'.clock):ConsW w' i:=by
 obtain ⟨e1,e2,e3⟩:=hl
 obtain ⟨a1,a2,a3,a4,a5,a6,a7,a8,a9⟩:=h
 refine ⟨by rw[hc];exact a1,by rw[hc];omega,by rw[hc];omega,by rw[hc];omega,by rw[hc,e1];exact a5,by rw[hc,e2];exact a6,by rw[e3];exact a7,by rw[hc];exact a8,?_⟩
 rw[e1,e2,hc,e3];exact a9
theorem zkb {w:Wld} (h:OkW w) (hd:w.deeds < 600):OkW (zr w) :=
 ⟨by have:=h.d0;show 0≤w.deeds+1;omega,by show w.deeds+1≤600;omega,h.t0,h.t1,h.p,by have:=h.ph;show w.p.Height≤w.deeds+1;omega,h.pt,by have:=h.pq;show ((w.p.Queue.length:Nat):Int)≤w.deeds+1;omega,
  fun i hi=>(h.c i hi).more rfl (.refl _ _) (by show w.deeds≤w.deeds+1;omega) (by exact Int.le_refl _)⟩
theorem zacs:OkW newW:=by
 have g:GoodX z9w:=(goodPr_iff.1 z5f).1
 refine ⟨by decide,by decide,by decide,by decide,g,by decide,by decide,by decide,fun i hi=>?_⟩
 have hc:za newW.consumers i=default:=by rcases (show i=0∨i=1 by omega) with rfl | rfl<;>rfl
 have hl:zc newW.p.Links i=default:=by rcases (show i=0∨i=1 by omega) with rfl | rfl<;>rfl
 have e1:newW.p.Links.On.get i=false:=congrArg Link.On hl
 have e2:newW.p.Links.Gone.get i=false:=congrArg Link.Gone hl
 refine ⟨by rw[hc];decide,by rw[hc];decide,by rw[hc];decide,by rw[hc];decide,by rw[hc,e1];rfl,by rw[hc,e2];rfl,(by rw[hl];intro s hs;cases hs),(by rw[hc];intro s hs;cases hs),fun _ _=>⟨hc,by rw[hl];rfl⟩⟩
theorem z7t {w:Wld} (h:OkW w) {p:zb} (hp:GoodX p) (hH:p.Height=w.p.Height) (hT:p.Time=w.p.Time) (hQ:p.Queue.length=w.p.Queue.length) (hl:∀ i:Int,0≤i∧i < 2→SameL p w.p i):OkW { w with p:=p } :=
 ⟨h.d0,h.d1,h.t0,h.t1,hp,by rw[hH];exact h.ph,by rw[hT];exact h.pt,by rw[hQ];exact h.pq,fun i hi=>(h.c i hi).more rfl (hl i hi) (Int.le_refl _) (Int.le_refl _)⟩
theorem z27 {p:zb} (h:GoodX p) {s:Stake} (hs:GoodS s):GoodX { p with Stake:=s }:=⟨hs,h.2.1,h.2.2.1,h.2.2.2.1,h.2.2.2.2.1,h.2.2.2.2.2⟩
theorem z28 {w:Wld} (h:OkW w) {s:Stake} (hs:GoodS s):OkW { w with p:={ w.p with Stake:=s } }:=z7t h (z27 h.p hs) rfl rfl rfl fun _ _=>⟨rfl,rfl,rfl⟩
theorem zyh {w:Wld} (h:OkW w) {r:zb×Int} (hr:r.2=0→OkW { w with p:=r.1 }):OkW (zqc w r).1:=by
 unfold zqc
 by_cases e:r.2=0
 ·rw[if_neg (by simpa using e)];exact hr e
 ·rw[if_pos e];exact h
theorem z98 {w:Wld} (h:OkW w) (d v n:Int):OkW (zqc w (zcy w.p d v n)).1:=by
 refine zyh h fun h0=>?_
 unfold zcy at h0 ⊢
 rw[if_pos h.pr] at h0 ⊢
 by_cases e:(zbj w.p.Stake d v n).2=0
 ·rw[if_neg (by simpa using e)];exact z28 h (z7m e)
 ·rw[if_pos e] at h0;exact absurd h0 e
theorem zact {p:zb} (h:GoodX p):GoodX { p with Links:=z9x p.Links }:=by
 have hlk:∀ j:Int,0≤j∧j < 2→LkX { p with Links:=z9x p.Links } j:=by
  intro j hj
  obtain ⟨a1,a2,a3,a4,a5,a6⟩:=h.lk hj
  exact ⟨a1,a2,a3,a4,a5,a6⟩
 exact ⟨h.1,h.2.1,h.2.2.1,okLk_iff.2 (hlk 0 (by omega)),okLk_iff.2 (hlk 1 (by omega)),h.2.2.2.2.2⟩
theorem z4e {w:Wld} (h:OkW w) (d v k:Int):OkW (zqc w (zcr w.p d v k w.clock)).1:=by
 refine zyh h fun h0=>?_
 unfold zcr at h0 ⊢
 have ht:zaa w.p=true∧0≤w.clock∧w.clock≤1099511627776:=⟨h.pr,h.t0,by have:=h.t1;omega⟩
 rw[if_pos ht] at h0 ⊢
 by_cases e:(zbc w.p.Stake d v k (z0o w.p w.clock)).2=0
 ·rw[if_neg (by simpa using e)]
  have g:=z2s e
  exact z7t h (z27 (zact h.p) g) rfl rfl rfl fun _ _=>⟨rfl,rfl,rfl⟩
 ·rw[if_pos e] at h0;exact absurd h0 e
theorem zagp {w:Wld} (h:OkW w) (v:Int):OkW (zqc w (zaeu w.p v)).1 :=
 zyh h fun _=>z28 h (zsc h.p.1 v (.inr (.inl rfl)))
theorem zanw {w:Wld} (h:OkW w) (v n:Int):OkW (zqc w (zuc w.p v n)).1:=by
 refine zyh h fun h0=>?_
 unfold zuc at h0 ⊢
 rw[if_neg (by rw[h.pr];simp)] at h0 ⊢
 by_cases h1:0≤v∧v < 6
 ·rw[if_pos h1] at h0 ⊢
  by_cases h2:1≤n∧n≤w.p.Height
  ·rw[if_pos h2] at h0 ⊢
   by_cases h3:w.p.Stake.Validators.Dead.get v=true
   ·rw[if_pos h3] at h0;cases h0
   ·rw[if_neg h3];exact z28 h (zsc (zua h.p.1 v n 50) v (.inr (.inr rfl)))
  ·rw[if_neg h2] at h0;cases h0
 ·rw[if_neg h1] at h0;cases h0
theorem zanx {w:Wld} (h:OkW w) (n:Int):OkW (z97 w n).1:=by
 unfold z97
 split
 ·exact h
 ·rename_i hn
  have:=h.t0;have:=h.t1;have:=h.pt
  exact ⟨h.d0,h.d1,by show 0≤w.clock+n;omega,by show w.clock+n≤_;omega,h.p,h.ph,by show w.p.Time≤w.clock+n;omega,h.pq,fun i hi=>(h.c i hi).more rfl (.refl _ _) (Int.le_refl _) (by show w.clock≤w.clock+n;omega)⟩
theorem zaev {M:Int} (hM:0≤M):∀ {l:List Power},(∀ q,q∈l→q.N≤M)→∀ v,zb8 l v≤M
 | [],_,v=>by simpa[zb8] using hM
 | q::l,h,v=>by
  simp only[zb8]
  split
  ·exact h q (List.mem_cons_self ..)
  ·exact zaev hM (fun q hq=>h q (List.mem_cons_of_mem _ hq)) v
theorem zaew {M:Int}:∀ {d:List Power} {v n:Int},n≤M→(∀ q,q∈d→q.N≤M)→zx5 d v n≤M
 | [],v,n,hn,_=>hn
 | q::d,v,n,hn,h=>by
  show zx5 d v (if q.V=v then q.N else n)≤M
  refine zaew ?_ (fun q hq=>h q (List.mem_cons_of_mem _ hq))
  split
  ·exact h q (List.mem_cons_self ..)
  ·exact hn
theorem zany {a d:List Power} (ha:zx 1 (-1) a=true) (hd:zx 0 (-1) d=true):zx 1 (-1) (zsp a d)=true :=
 zann fun v=>zaew (zaev (by omega) (fun q hq=>(znj (by omega) ha (by omega) q hq).2.2.2) _) (fun q hq=>(znj (by omega) hd (by omega) q hq).2.2.2)
structure zagq (c:Consumer):Prop where
 set:zx 1 (-1) c.Set=true
 ripes:c.Ripes.all zjd=true
 id0:0≤c.Id
 id1:c.Id≤1099511627776
theorem zakd {now:Int} (hn:0≤now∧now≤1099511627776) {c:Consumer} (h:zagq c) {p:Packet} (hp:zms p=true):zagq (znc now c p):=by
 rw[zr9]
 obtain ⟨g1,g2,_⟩:=z2v (l:=[p]) (by simp[hp]) p (by simp)
 have f:=zk0 g1
 refine ⟨zany h.set f.2.2.2.2.2.2.2.2.1,?_,by show 0≤p.Id;omega,f.2.2.2.1⟩
 show (c.Ripes++[(⟨p.Id,i64.wrap (now+15)⟩:Ripe)]).all zjd=true
 rw[List.all_append,h.ripes]
 have:zjd (⟨p.Id,i64.wrap (now+15)⟩:Ripe)=true:=by
  unfold zjd
  simp only[yy7,decide_eq_true_eq]
  rw[zj (by omega) (by omega)]
  exact ⟨⟨f.2.2.1,f.2.2.2.1⟩,by omega⟩
 simp[this]
theorem z5i {now:Int} (hn:0≤now∧now≤1099511627776):∀ {l:List Packet} {c:Consumer},zagq c→l.all zms=true→zagq (l.foldl (znc now) c)
 | [],_,h,_=>h
 | p::l,c,h,hl=>by
  rw[List.all_cons,yy7] at hl
  exact z5i (c:=znc now c p) hn (zakd hn h hl.1) hl.2
def matP (r:Ripe):Packet:=⟨2,r.Id,0,0,[],[]⟩
def matT (r:Ripe):ByteArray:=txt (znb (matP r))
theorem zyi {r:Ripe} (h:zjd r=true):zcs (matP r)=0:=by
 unfold zjd at h
 simp only[yy7,decide_eq_true_eq] at h
 exact zajw h.1.1 h.1.2
theorem z29 {now:Int} (hn:0≤now∧now≤1099511627776):∀ (rs:List Ripe) (c:Consumer),c.Ripes=rs→zcb c.Out→rs.all zjd=true →
  ∃ k,k≤rs.length∧zpg now rs c={ c with Ripes:=rs.drop k,Out:={ c.Out with Said:=c.Out.Said++(rs.take k).map matT,Due:=c.Out.Due++List.replicate k (now+40) } } ∧
   (∀ r,r∈rs.take k→r.Due≤now)∧(k=rs.length∨(∃ r,rs[k]?=some r∧now < r.Due)∨c.Out.Closed=true∨400≤c.Out.Said.length+k)∧c.Out.Said.length+k≤400
 | [],c,hr,hg,_=>⟨0,Nat.le_refl _,by
   show c={ c with Ripes:=[],Out:={ c.Out with Said:=c.Out.Said++[],Due:=c.Out.Due++[] } }
   rw[List.append_nil,List.append_nil,← hr],by simp,.inl rfl,by have:c.Out.Said.length≤400:=hg.2.1;omega⟩
 | r::rs,c,hr,hg,ha=>by
  have h400:c.Out.Said.length≤400:=hg.2.1
  rw[List.all_cons,yy7] at ha
  have hstop:(r.Due≤now→c.Out.Closed=true∨400≤c.Out.Said.length)→zpg now (r::rs) c=c→∃ k,k≤(r::rs).length∧zpg now (r::rs) c={ c with Ripes:=(r::rs).drop k,Out:={ c.Out with Said:=c.Out.Said++((r::rs).take k).map matT,Due:=c.Out.Due++List.replicate k (now+40) } } ∧
    (∀ q,q∈(r::rs).take k→q.Due≤now)∧(k=(r::rs).length∨(∃ q,(r::rs)[k]?=some q∧now < q.Due)∨c.Out.Closed=true∨400≤c.Out.Said.length+k)∧c.Out.Said.length+k≤400:=by
   intro h1 h2
   refine ⟨0,Nat.zero_le _,by rw[h2];simp[← hr],by simp,?_,by omega⟩
   by_cases hd:r.Due≤now
   ·rcases h1 hd with k | k
    ·exact .inr (.inr (.inl k))
    ·exact .inr (.inr (.inr (by omega)))
   ·exact .inr (.inl ⟨r,rfl,by omega⟩)
  by_cases hd:r.Due≤now
  ·by_cases hc:c.Out.Closed=true∨400≤c.Out.Said.length
   ·refine hstop (fun _=>hc) ?_
    have e0:(zsw ⟨2,r.Id,0,0,[],[]⟩ now c).1≠0:=by
     intro e
     obtain ⟨_,k,_⟩:=zajv e
     obtain ⟨_,_,k1,k2,_⟩:=zack k
     rcases hc with hc | hc
     ·rw[hc] at k1;cases k1
     ·omega
    unfold zpg
    rw[if_pos hd,if_pos e0]
   ·have hc1:c.Out.Closed=false:=Bool.eq_false_iff.2 (fun h=>hc (.inl h))
    have hc2:c.Out.Said.length < 400:=by have:¬ 400≤c.Out.Said.length:=fun h=>hc (.inr h);omega
    have hw:i64.wrap (now+40)=now+40:=zj (by omega) (by omega)
    have hs:=zanl (p:=matP r) (now:=now) (c:=c) (zyi ha.1) hg (by rw[hw];omega) hc1 hc2
    rw[hw] at hs
    obtain ⟨c',hc'⟩:∃ c':Consumer,c'={ c with Ripes:=rs,Out:={ c.Out with Said:=c.Out.Said++[matT r],Due:=c.Out.Due++[now+40] } }:=⟨_,rfl⟩
    have hstep:zpg now (r::rs) c=zpg now rs c':=by
     have hs':zsw ⟨2,r.Id,0,0,[],[]⟩ now c=_:=hs
     rw[zpg,if_pos hd,hs',if_neg (by simp),hc']
     rfl
    have hg':zcb c'.Out:=by rw[hc'];exact z5d hg (by omega) hc2
    obtain ⟨k,k1,k2,k3,k4,k5⟩:=z29 hn rs c' (by rw[hc']) hg' ha.2
    have l1:c'.Out.Said.length=c.Out.Said.length+1:=by rw[hc'];simp
    refine ⟨k+1,by simp only[List.length_cons];omega,?_,?_,?_,by omega⟩
    ·rw[hstep,k2,hc']
     simp only[List.drop_succ_cons,List.take_succ_cons,List.map_cons,List.append_assoc,List.singleton_append,List.replicate_succ]
    ·intro q hq
     rw[List.take_succ_cons] at hq
     rcases List.mem_cons.1 hq with rfl | hq
     ·exact hd
     ·exact k3 q hq
    ·rcases k4 with k4 | k4 | k4 | k4
     ·exact .inl (by simp only[List.length_cons];omega)
     ·exact .inr (.inl (by simpa using k4))
     ·exact .inr (.inr (.inl (by rw[hc'] at k4;exact k4)))
     ·exact .inr (.inr (.inr (by omega)))
  ·exact hstop (fun h=>absurd h hd) (by unfold zpg;rw[if_neg hd])
theorem zagr {l:zi6} (h:zcb l) {t:List ByteArray} {n u:Int} (hu:0≤u) (hl:l.Said.length+t.length≤400):zcb { l with Said:=l.Said++t,Due:=l.Due++List.replicate t.length u }:=by
 obtain ⟨g1,g2,g3,g4,g5⟩:=h
 refine ⟨by simp[g1],by simp only[yy6];omega,g3,by simp only[yy6];omega,?_⟩
 simp only[List.any_append,g5,Bool.false_or]
 rw[List.any_eq_false]
 intro x hx
 rw[List.eq_of_mem_replicate hx]
 simp only[decide_eq_true_eq];omega
theorem zq3 {now:Int} {c:Consumer} (hg:zjg c=true) (ho:c.On=true) (ht:c.Time≤now∧now≤1099511627776) (hh:c.Height+1 < 1099511627776) :
  (zt9 now c).2=0∧∃ m k,m=c.Pending.foldl (znc now) { c with Height:=c.Height+1,Time:=now }∧zagq m∧m.Ripes.length=c.Ripes.length+c.Pending.length∧k≤m.Ripes.length ∧
   (zt9 now c).1={ m with Pending:=[],Ripes:=m.Ripes.drop k,Out:={ c.Out with Said:=c.Out.Said++(m.Ripes.take k).map matT,Due:=c.Out.Due++List.replicate k (now+40) } } ∧
   m.On=c.On∧m.Gone=c.Gone∧m.Height=c.Height+1∧m.Time=now∧m.Out=c.Out∧(∀ r,r∈m.Ripes.take k→r.Due≤now) ∧
   (k=m.Ripes.length∨(∃ r,m.Ripes[k]?=some r∧now < r.Due)∨c.Out.Closed=true∨400≤c.Out.Said.length+k)∧c.Out.Said.length+k≤400∧zjg (zt9 now c).1=true:=by
 obtain ⟨g1,g2,g3,g4,g5⟩:=zas hg
 have hw:i64.wrap (c.Height+1)=c.Height+1:=zj (by have:=g1.2;omega) (by have:=g1.2;omega)
 have hn0:0≤now:=by have:=g1.2.2.2.1;omega
 have he:=zanm (now:=now) hg ho ht.1 ht.2
 rw[hw] at he
 obtain ⟨m,hm⟩:∃ m,m=c.Pending.foldl (znc now) { c with Height:=c.Height+1,Time:=now }:=⟨_,rfl⟩
 rw[← hm] at he
 have hpm:zagq m:=by rw[hm];exact z5i ⟨hn0,ht.2⟩ ⟨g3,g4,g1.2.2.2.2.2.1,g1.2.2.2.2.2.2⟩ g5
 obtain ⟨f1,f2,f3,f4,f5,f6⟩:=zvl (now:=now) c.Pending { c with Height:=c.Height+1,Time:=now }
 rw[← hm] at f1 f2 f3 f4 f5 f6
 obtain ⟨k,k1,k2,k3,k4,k5⟩:=z29 (now:=now) ⟨hn0,ht.2⟩ m.Ripes { m with Pending:=[] } rfl (by show zcb m.Out;rw[f2];exact g2) hpm.ripes
 replace f2:m.Out=c.Out:=f2
 simp only[f2] at k4 k5
 have hfin:(zt9 now c).1={ m with Pending:=[],Ripes:=m.Ripes.drop k,Out:={ c.Out with Said:=c.Out.Said++(m.Ripes.take k).map matT,Due:=c.Out.Due++List.replicate k (now+40) } }:=by
  rw[he]
  show zpg now m.Ripes { m with Pending:=[] }=_
  rw[k2]
  simp only[f2]
 refine ⟨by rw[he],m,k,hm,hpm,f1,k1,hfin,f3,f4,f5,f6,f2,k3,k4,k5,?_⟩
 rw[hfin]
 have hl:((m.Ripes.take k).map matT).length=k:=by rw[List.length_map,List.length_take];omega
 refine zph ⟨by show (m.On&&m.Gone)=false;rw[f3,f4];exact g1.1,by show 0≤m.Height;rw[f5];show 0≤c.Height+1;have:=g1.2;omega,?_,by show 0≤m.Time;rw[f6];exact hn0,by show m.Time≤_;rw[f6];exact ht.2,hpm.id0,hpm.id1⟩ ?_ hpm.set ?_ rfl
 ·show m.Height < _;rw[f5];show c.Height+1 < _
  exact hh
 ·have:=zagr (n:=0) g2 (t:=(m.Ripes.take k).map matT) (u:=now+40) (by omega) (by rw[hl];exact k5)
  rw[hl] at this
  exact this
 ·show (m.Ripes.drop k).all zjd=true
  rw[List.all_eq_true]
  intro r hr
  exact List.all_eq_true.1 hpm.ripes r (List.mem_of_mem_drop hr)
theorem z3a {w w':Wld} (h:OkW w) (hd:w.deeds < 600) (e1:w'.deeds=w.deeds+1) (e2:w'.clock=w.clock) (p:GoodX w'.p) (ph:w'.p.Height≤w.deeds+1) (pt:w'.p.Time≤w.clock) (pq:((w'.p.Queue.length:Nat):Int)≤w.deeds+1)
  {i:Int} (ci:ConsW w' i) (cj:∀ j:Int,0≤j∧j < 2→j≠i→za w'.consumers j=za w.consumers j∧SameL w'.p w.p j):OkW w':=by
 have d0:=h.d0
 refine ⟨by omega,by omega,by rw[e2];exact h.t0,by rw[e2];exact h.t1,p,by omega,by omega,by omega,fun j hj=>?_⟩
 by_cases e:j=i
 ·rw[e];exact ci
 ·obtain ⟨c1,c2⟩:=cj j hj e
  exact (h.c j hj).more c1 c2 (by omega) (by omega)
theorem z7u {w w':Wld} (h:OkW w) (hd:w.deeds < 600) (e1:w'.deeds=w.deeds+1) (e2:w'.clock=w.clock) (e3:w'.p=w.p) {i:Int} (hi:0≤i∧i < 2) {c:Consumer} (hc:w'.consumers=zjh w.consumers i c)
  (good:zjg c=true) (height:c.Height≤w.deeds+1) (time:c.Time≤w.clock) (size:((c.Pending.length+c.Ripes.length:Nat):Int)≤w.deeds+1) (on:c.On=(za w.consumers i).On) (gone:c.Gone=(za w.consumers i).Gone)
  (said:∀ s,s∈c.Out.Said→PkB s) (ho:(za w.consumers i).On=true):OkW w':=by
 have hw:=h.c i hi
 have hci:za w'.consumers i=c:=by rw[hc,zap hi]
 refine z3a (i:=i) h hd e1 e2 (by rw[e3];exact h.p) (by rw[e3];have:=h.ph;omega) (by rw[e3];exact h.pt) (by rw[e3];have:=h.pq;omega) ?_ fun j hj hji=>⟨by rw[hc,z5 hi hj hji],by rw[e3];exact .refl _ _⟩
 have on':w.p.Links.On.get i=true:=by rw[← hw.on];exact ho
 refine ⟨by rw[hci];exact good,by rw[hci,e1];exact height,by rw[hci,e2];exact time,by rw[hci,e1];exact size,by rw[hci,e3,on];exact hw.on,by rw[hci,e3,gone];exact hw.gone,by rw[e3];exact hw.told,by rw[hci];exact said,fun k=>?_⟩
 rw[e3,on'] at k;cases k
theorem zake {a b:ByteArray} (h:a.toList=b.toList):a=b:=by
 rw[ByteArray.toList_eq,ByteArray.toList_eq] at h
 obtain ⟨⟨a⟩⟩:=a
 obtain ⟨⟨b⟩⟩:=b
 simp only at h
 rw[h]
theorem zasi {r:Ripe} (h:zjd r=true):PkB (matT r):=⟨matP r,zyi h,by unfold matP;simp,rfl⟩
theorem zacu {w:Wld} (h:OkW w) (hd:w.deeds < 600) {i:Int} (hi:0≤i∧i < 2) (ho:(za w.consumers i).On=true):OkW (zne (zr w) i).1:=by
 have hc:=h.c i hi
 have h1:=h.t1
 have hh:=hc.height
 obtain ⟨e0,m,k,hm,hpm,hl,hk,hf,f1,f2,f3,f4,f5,f6,f7,f8,hg⟩:=zq3 hc.good ho ⟨hc.time,by omega⟩ (by omega)
 unfold zne
 rw[if_neg (by show ¬ (zt9 w.clock (za w.consumers i)).2≠0;rw[e0];simp)]
 refine z7u h hd rfl rfl rfl hi (c:=(zt9 w.clock (za w.consumers i)).1) rfl hg ?_ ?_ ?_ ?_ ?_ ?_ ho
 all_goals rw[hf]
 ·show m.Height≤_;rw[f3];omega
 ·show m.Time≤_;rw[f4];omega
 ·have:=hc.size
  simp only[List.length_nil,List.length_drop]
  omega
 ·exact f1
 ·exact f2
 ·intro s hs
  rcases List.mem_append.1 hs with hs | hs
  ·exact hc.said s hs
  ·obtain ⟨r,hr,rfl⟩:=List.mem_map.1 hs
   exact zasi (List.all_eq_true.1 hpm.ripes r (List.mem_of_mem_take hr))
theorem z3b {c:Consumer} (hg:zjg c=true) {q:Packet} (hq:q.Kind≠1) {now:Int} (h:(zsw q now c).1=0) :
  zcs q=0∧0≤i64.wrap (now+40)∧c.Out.Closed=false∧c.Out.Said.length < 400∧(zsw q now c).2={ c with Out:={ c.Out with Said:=c.Out.Said++[txt (znb q)],Due:=c.Out.Due++[i64.wrap (now+40)] } }∧zjg (zsw q now c).2=true:=by
 obtain ⟨k1,k2,k3⟩:=zajv h
 obtain ⟨l1,l2,l3,l4,_⟩:=zack k2
 obtain ⟨g1,g2,g3,g4,g5⟩:=zas hg
 refine ⟨k1,l2,l3,l4,by rw[k3],?_⟩
 rw[k3]
 exact zph g1 (z5d l1 l2 l4) g3 g4 g5
theorem zakf {w w':Wld} (h:OkW w) (hd:w.deeds < 600) (e1:w'.deeds=w.deeds+1) (e2:w'.clock=w.clock) (e3:w'.p=w.p) {i:Int} (hi:0≤i∧i < 2) (ho:(za w.consumers i).On=true) {q:Packet} (hq:q.Kind≠1) (hs:(zsw q w.clock (za w.consumers i)).1=0) {f:A6 Bool}
  (hc:w'.consumers=zjh w.consumers i { (zsw q w.clock (za w.consumers i)).2 with Flags:=f }):OkW w':=by
 have hw:=h.c i hi
 obtain ⟨s1,s2,s3,s4,s5,s6⟩:=z3b hw.good hq hs
 obtain ⟨g1,g2,g3,g4,g5⟩:=zas s6
 have hz:=hw.size;have hh:=hw.height;have ht:=hw.time
 refine z7u h hd e1 e2 e3 hi hc (zph g1 g2 g3 g4 g5) ?_ ?_ ?_ ?_ ?_ ?_ ho
 all_goals rw[s5]
 ·show (za w.consumers i).Height≤_;omega
 ·exact ht
 ·show (((za w.consumers i).Pending.length+(za w.consumers i).Ripes.length:Nat):Int)≤_;omega
 ·intro s hs
  rcases List.mem_append.1 hs with hs | hs
  ·exact hw.said s hs
  ·rw[List.mem_singleton.1 hs];exact ⟨q,s1,hq,rfl⟩
theorem zaey {w:Wld} (h:OkW w) (hd:w.deeds < 600) {i:Int} {r:Consumer×Int} (hr:r.2=0→OkW { zr w with consumers:=zjh w.consumers i r.1 }):OkW (putW (zr w) i r).1:=by
 unfold putW
 by_cases e:r.2=0
 ·rw[if_neg (by simpa using e)];exact hr e
 ·rw[if_pos e];exact zkb h hd
theorem zanz {w:Wld} (h:OkW w) (hd:w.deeds < 600) {i:Int} (hi:0≤i∧i < 2) (ho:(za w.consumers i).On=true) (v:Int):OkW (putW (zr w) i (z2w (za w.consumers i) v w.clock)).1:=by
 refine zaey h hd fun h0=>?_
 obtain ⟨_,_,_,_,_,_,_,hs,he⟩:=zaeh h0
 rw[he]
 exact zakf h hd rfl rfl rfl hi ho (by simp) hs rfl
theorem zags {w:Wld} (h:OkW w) (hd:w.deeds < 600) {i:Int} (hi:0≤i∧i < 2) (ho:(za w.consumers i).On=true) (v n:Int):OkW (putW (zr w) i (zqa (za w.consumers i) v n w.clock)).1:=by
 refine zaey h hd fun h0=>?_
 unfold zqa at h0 ⊢
 by_cases h1:zjg (za w.consumers i)=false∨w.clock < 0∨1099511627776 < w.clock
 ·rw[if_pos h1] at h0;cases h0
 rw[if_neg h1] at h0 ⊢
 by_cases h2:(za w.consumers i).On=false∨v < 0∨5 < v
 ·rw[if_pos h2] at h0;cases h0
 rw[if_neg h2] at h0 ⊢
 by_cases h3:n < 1∨(za w.consumers i).Id < n
 ·rw[if_pos h3] at h0;cases h0
 rw[if_neg h3] at h0 ⊢
 exact zakf h hd rfl rfl rfl hi ho (q:=⟨4,n,v,maxC (za w.consumers i) v,[],[]⟩) (by simp) h0 (f:=(zsw ⟨4,n,v,maxC (za w.consumers i) v,[],[]⟩ w.clock (za w.consumers i)).2.Flags) rfl
theorem zagt {p:zb} (h:GoodX p) {i:Int} (hi:0≤i∧i < 2) {l:zi6} (hl:zcb l):GoodX { p with Links:=zyf p.Links i l }:=by
 have hlk:∀ j:Int,0≤j∧j < 2→LkX { p with Links:=zyf p.Links i l } j:=by
  intro j hj
  obtain ⟨a1,a2,a3,a4,a5,a6⟩:=h.lk hj
  refine ⟨a1,a2,a3,a4,?_,a6⟩
  rw[zww,zhb hi hj]
  split
  ·exact hl
  ·exact a5
 exact ⟨h.1,h.2.1,h.2.2.1,okLk_iff.2 (hlk 0 (by omega)),okLk_iff.2 (hlk 1 (by omega)),h.2.2.2.2.2⟩
theorem zagu {p:zb} (h:GoodX p) (i:Int) (s:Head):GoodX { p with Links:=zzk p.Links i s }:=by
 have hlk:∀ j:Int,0≤j∧j < 2→LkX { p with Links:=zzk p.Links i s } j:=by
  intro j hj
  obtain ⟨a1,a2,a3,a4,a5,a6⟩:=h.lk hj
  exact ⟨a1,a2,a3,a4,a5,a6⟩
 exact ⟨h.1,h.2.1,h.2.2.1,okLk_iff.2 (hlk 0 (by omega)),okLk_iff.2 (hlk 1 (by omega)),h.2.2.2.2.2⟩
theorem zakg {w:Wld} (h:OkW w) (hd:w.deeds < 600) {i:Int} (hi:0≤i∧i < 2) (ho:(za w.consumers i).On=true) (back:Bool):OkW (z24 (zr w) i back).1:=by
 unfold z24
 have hw:=h.c i hi
 cases back with
 | true =>
  rw[if_pos rfl]
  refine z7t (zkb h hd) (zagu h.p i _) rfl rfl rfl fun j hj=>⟨rfl,rfl,?_⟩
  rfl
 | false =>
  rw[if_neg (by simp)]
  obtain ⟨g1,g2,g3,g4,g5⟩:=zas hw.good
  have hz:=hw.size;have hh:=hw.height
  exact z7u h hd rfl rfl rfl hi rfl (zph g1 g2 g3 g4 g5) (by show (za w.consumers i).Height≤_;omega) hw.time (by show (((za w.consumers i).Pending.length+(za w.consumers i).Ripes.length:Nat):Int)≤_;omega) rfl rfl hw.said ho
theorem z5j {w:Wld} {d:Deed} (h:(zhc w d).2=0):zcb (zav w d.C d.Back)∧(zav w d.C d.Back).Closed=false∧(zav w d.C d.Back).Got+1≤((zav w d.C d.Back).Said.length:Int)∧(zav w d.C d.Back).Got+1≤z25 w d.C d.Back ∧
  zeh (zav w d.C d.Back) d.Forged=(zav w d.C d.Back).Said.getD (zav w d.C d.Back).Got.toNat .empty∧w.clock < (zav w d.C d.Back).Due.getD (zav w d.C d.Back).Got.toNat 0 ∧
  (zhc w d).1={ zav w d.C d.Back with Got:=(zav w d.C d.Back).Got+1 }∧zcb (zhc w d).1:=by
 have hs:(zav w d.C d.Back).Got+1≤z25 w d.C d.Back:=by
  unfold zhc zj7 at h
  by_cases h1:¬ zcb (zav w d.C d.Back)
  ·rw[if_pos h1] at h;cases h
  rw[if_neg h1] at h
  have hl:=Classical.not_not.1 h1
  have e4:(zav w d.C d.Back).Said.length≤400:=hl.2.1
  have hw:i64.wrap ((zav w d.C d.Back).Got+1)=(zav w d.C d.Back).Got+1:=zj (by have:=hl.2.2.1;omega) (by have:=hl.2.2.2.1;omega)
  rw[hw] at h
  by_cases h2:(zav w d.C d.Back).Closed=true
  ·rw[if_pos h2] at h;cases h
  rw[if_neg h2,if_neg (by simp)] at h
  by_cases h3:z25 w d.C d.Back < (zav w d.C d.Back).Got+1∨((zav w d.C d.Back).Said.length:Int) < (zav w d.C d.Back).Got+1∨((zav w d.C d.Back).Said.getD (zav w d.C d.Back).Got.toNat .empty).toList≠(zeh (zav w d.C d.Back) d.Forged).toList
  ·rw[if_pos h3] at h;cases h
  ·simp only[not_or] at h3;omega
 obtain ⟨h1,h2,h3,h4,h5,h6,h7⟩:=zafx h
 have e4:(zav w d.C d.Back).Said.length≤400:=h1.2.1
 have hw:i64.wrap ((zav w d.C d.Back).Got+1)=(zav w d.C d.Back).Got+1:=zj (by have:=h1.2.2.1;omega) (by have:=h1.2.2.2.1;omega)
 rw[hw] at h4
 have he:(zhc w d).1={ zav w d.C d.Back with Got:=(zav w d.C d.Back).Got+1 }:=by
  unfold zhc
  rw[h7,hw]
 refine ⟨h1,Bool.eq_false_iff.2 h2,h4,hs,?_,h6,he,?_⟩
 ·exact (zake h5).symm
 ·rw[he]
  obtain ⟨g1,g2,g3,g4,g5⟩:=h1
  exact ⟨g1,g2,by show 0≤(zav w d.C d.Back).Got+1;omega,h4,g5⟩
theorem z3c {c:Consumer} (hg:zjg c=true) {s:List UInt8} (h:(zox c s).2=0):c.On=true∧zcs (za3 s).1=0∧(za3 s).1.Kind=1∧(za3 s).2=0∧(zox c s).1={ c with Pending:=c.Pending++[(za3 s).1] }∧zjg (zox c s).1=true:=by
 unfold zox at h ⊢
 rw[if_neg (by rw[hg];simp)] at h ⊢
 by_cases h1:c.On=false
 ·rw[if_pos h1] at h;cases h
 rw[if_neg h1] at h ⊢
 by_cases h2:(za3 s).2=0
 ·rw[if_neg (by simpa using h2)] at h ⊢
  by_cases h3:(za3 s).1.Kind=1
  ·rw[if_neg (by simpa using h3)]
   have gp:=zaer h2
   refine ⟨by simpa using h1,gp,h3,h2,rfl,?_⟩
   obtain ⟨g1,g2,g3,g4,g5⟩:=zas hg
   refine zph g1 g2 g3 g4 ?_
   show (c.Pending++[(za3 s).1]).all zms=true
   rw[List.all_append,g5]
   simp[zms,gp,h3]
  ·rw[if_pos h3] at h;cases h
 ·rw[if_pos h2] at h;exact absurd h h2
theorem z0c {p:zb} (hg:zaa p=true) {i:Int} {s:List UInt8} (h:(zif p i s).2=0):(0≤i∧i < 2)∧p.Links.On.get i=true∧zcs (za3 s).1=0∧(za3 s).1.Kind≠1∧(za3 s).2=0∧(zif p i s).1={ p with Queue:=p.Queue++[⟨i,(za3 s).1⟩] }∧GoodX (zif p i s).1:=by
 unfold zif at h ⊢
 rw[if_neg (by rw[hg];simp)] at h ⊢
 by_cases h1:(0≤i∧i < 2)∧p.Links.On.get i=true
 ·rw[if_pos h1] at h ⊢
  by_cases h2:(za3 s).2=0
  ·rw[if_neg (by simpa using h2)] at h ⊢
   by_cases h3:(za3 s).1.Kind=1
   ·rw[if_pos h3] at h;cases h
   ·rw[if_neg h3]
    have gp:=zaer h2
    have hx:=(goodPr_iff.1 hg).1
    refine ⟨h1.1,h1.2,gp,h3,h2,rfl,hx.1,hx.2.1,hx.2.2.1,hx.2.2.2.1,hx.2.2.2.2.1,?_⟩
    show (p.Queue++[_]).all _=true
    rw[List.all_append,yy7]
    refine ⟨hx.2.2.2.2.2,List.all_eq_true.2 fun b hb=>?_⟩
    rw[List.mem_singleton.1 hb]
    exact ask_iff.2 ⟨h1.1,h1.2,gp,h3⟩
  ·rw[if_pos h2] at h;exact absurd h h2
 ·rw[if_neg h1] at h;cases h
theorem zacv {w:Wld} (h:OkW w) (hd:w.deeds < 600) {d:Deed} (hi:0≤d.C∧d.C < 2) (ho:(za w.consumers d.C).On=true):OkW (zhd (zr w) d).1:=by
 have hw:=h.c d.C hi
 unfold zhd
 by_cases h0:(zhc w d).2=0
 ·rw[if_neg (by show ¬ (zhc w d).2≠0;simpa using h0)]
  obtain ⟨f1,f2,f3,f4,f5,f6,f7,f8⟩:=z5j h0
  cases hb:d.Back with
  | true =>
   rw[if_pos rfl]
   rw[hb] at f5
   have e0:zav w d.C true=(za w.consumers d.C).Out:=rfl
   by_cases h1:(zif w.p d.C (zeh (zav w d.C true) d.Forged).data.toList).2=0
   ·rw[if_neg (by show ¬ (zif w.p d.C (zeh (zav w d.C true) d.Forged).data.toList).2≠0;simpa using h1)]
    obtain ⟨q1,q2,q3,q4,q5,q6,q7⟩:=z0c h.pr h1
    obtain ⟨g1,g2,g3,g4,g5⟩:=zas hw.good
    have hz:=hw.size;have hh:=hw.height;have hp:=h.ph;have hq:=h.pq
    have hr:(zhc w d).1={ (za w.consumers d.C).Out with Got:=(za w.consumers d.C).Out.Got+1 }:=by rw[f7,hb];rfl
    have e6:(zif (zr w).p d.C (zeh (zav (zr w) d.C true) d.Forged).data.toList).1={ w.p with Queue:=w.p.Queue++[⟨d.C,(za3 (zeh (zav w d.C true) d.Forged).data.toList).1⟩] }:=q6
    simp only[e6]
    refine z3a (i:=d.C) h hd rfl rfl (by rw[← q6];exact q7) (by show w.p.Height≤_;omega) h.pt (by show (((w.p.Queue++[_]).length:Nat):Int)≤_;rw[yy6,yy5];omega) ?_ fun j hj hji=>⟨z5 hi hj hji _,rfl,rfl,rfl⟩
    have hci:za (zjh (zr w).consumers d.C { za (zr w).consumers d.C with Out:=(zhc (zr w) d).1 }) d.C={ za w.consumers d.C with Out:=(zhc w d).1 }:=zap hi _
    refine ⟨?_,?_,?_,?_,?_,?_,hw.told,?_,fun k=>?_⟩
    ·rw[hci];exact zph g1 f8 g3 g4 g5
    ·rw[hci];show (za w.consumers d.C).Height≤w.deeds+1;omega
    ·rw[hci];exact hw.time
    ·rw[hci];show (((za w.consumers d.C).Pending.length+(za w.consumers d.C).Ripes.length:Nat):Int)≤w.deeds+1;omega
    ·rw[hci];exact hw.on
    ·rw[hci];exact hw.gone
    ·rw[hci];show ∀ s,s∈(zhc w d).1.Said→PkB s;rw[hr];exact hw.said
    ·have k':w.p.Links.On.get d.C=false:=k
     rw[q2] at k';cases k'
   ·rw[if_pos (by exact h1)];exact zkb h hd
  | false =>
   rw[if_neg (by simp)]
   rw[hb] at f5
   by_cases h1:(zox (za w.consumers d.C) (zeh (zav w d.C false) d.Forged).data.toList).2=0
   ·rw[if_neg (by show ¬ (zox (za w.consumers d.C) (zeh (zav w d.C false) d.Forged).data.toList).2≠0;simpa using h1)]
    obtain ⟨q1,q2,q3,q4,q5,q6⟩:=z3c hw.good h1
    have hz:=hw.size;have hh:=hw.height;have hp:=h.ph;have hq:=h.pq
    have hr:(zhc w d).1={ (zc w.p.Links d.C).Out with Got:=(zc w.p.Links d.C).Out.Got+1 }:=by rw[f7,hb];rfl
    have on':w.p.Links.On.get d.C=true:=by rw[← hw.on];exact ho
    refine z3a (i:=d.C) h hd rfl rfl (zagt h.p hi f8) (by show w.p.Height≤_;omega) h.pt (by show ((w.p.Queue.length:Nat):Int)≤_;omega) ?_ fun j hj hji=>⟨z5 hi hj hji _,rfl,rfl,?_⟩
    ·have hci:za (zjh (zr w).consumers d.C (zox (za (zr w).consumers d.C) (zeh (zav (zr w) d.C false) d.Forged).data.toList).1) d.C=(zox (za w.consumers d.C) (zeh (zav w d.C false) d.Forged).data.toList).1:=zap hi _
     refine ⟨?_,?_,?_,?_,?_,?_,?_,?_,fun k=>?_⟩
     ·rw[hci];exact q6
     ·rw[hci,q5];show (za w.consumers d.C).Height≤w.deeds+1;omega
     ·rw[hci,q5];exact hw.time
     ·rw[hci,q5]
      show ((((za w.consumers d.C).Pending++[_]).length+(za w.consumers d.C).Ripes.length:Nat):Int)≤w.deeds+1
      rw[yy6,yy5];omega
     ·rw[hci,q5];exact hw.on
     ·rw[hci,q5];exact hw.gone
     ·show ∀ s,s∈(zc (zyf w.p.Links d.C (zhc w d).1) d.C).Out.Said→Pk1 s
      rw[zhb hi hi,if_pos rfl,hr];exact hw.told
     ·rw[hci,q5];exact hw.said
     ·have k':w.p.Links.On.get d.C=false:=k
      rw[on'] at k';cases k'
    ·show (zc (zyf w.p.Links d.C (zhc w d).1) j).Out.Said=_
     rw[zhb hi hj,if_neg hji]
   ·rw[if_pos (by exact h1)];exact zkb h hd
 ·rw[if_pos (by exact h0)];exact zkb h hd
theorem zacw {w:Wld} (h:OkW w) (hd:w.deeds < 600):OkW (zka (zr w)).1:=by
 have ht:zaa w.p=true∧w.p.Time≤w.clock∧w.clock≤1099511627776:=⟨h.pr,h.pt,by have:=h.t1;omega⟩
 unfold zka
 rw[if_neg (by show ¬ (ze9 w.p w.clock).2.2≠0;rw[zacr ht];simp)]
 obtain ⟨r1,r2,r3,r4,r5,r6,r7,r8⟩:=zin ht
 obtain ⟨S,D,M,e,hS,hdn,hl,hm⟩:=z04 ht.1 w.clock
 have hg:=zanu ht.1 ht.2
 have hp:=h.ph;have hq:=h.pq;have d0:=h.d0
 refine ⟨by show 0≤w.deeds+1;omega,by show w.deeds+1≤600;omega,h.t0,h.t1,hg,by show (ze9 w.p w.clock).1.Height≤w.deeds+1;rw[r1];omega,by show (ze9 w.p w.clock).1.Time≤w.clock;rw[r2];exact Int.le_refl _,by show (((ze9 w.p w.clock).1.Queue.length:Nat):Int)≤w.deeds+1;rw[r5];omega,fun i hi=>?_⟩
 obtain ⟨D',-,hD⟩:=zsd ht hi
 have hw:=h.c i hi
 have hz:=hw.size;have hh:=hw.height
 have o1:(ze9 w.p w.clock).1.Links.On.get i=w.p.Links.On.get i:=by rw[r6]
 have o2:(ze9 w.p w.clock).1.Links.Gone.get i=w.p.Links.Gone.get i:=by rw[r7]
 refine ⟨hw.good,by show (za w.consumers i).Height≤w.deeds+1;omega,hw.time,by show (((za w.consumers i).Pending.length+(za w.consumers i).Ripes.length:Nat):Int)≤w.deeds+1;omega,hw.on.trans o1.symm,hw.gone.trans o2.symm,?_,hw.said,?_⟩
 ·show ∀ s,s∈(zc (ze9 w.p w.clock).1.Links i).Out.Said→Pk1 s
  rw[← zww]
  rcases hD with ⟨-,-,-,e4,-⟩ | ⟨-,-,-,-,-,-,-,e8,e9⟩
  ·rw[e4];exact hw.told
  ·rw[e9]
   intro s hs
   rcases List.mem_append.1 hs with hs | hs
   ·exact hw.told s hs
   ·rw[List.mem_singleton.1 hs];exact ⟨_,e8,rfl,rfl⟩
 ·intro k1 k2
  have k1':w.p.Links.On.get i=false:=o1.symm.trans k1
  obtain ⟨c1,c2⟩:=hw.fresh k1' (o2.symm.trans k2)
  refine ⟨c1,?_⟩
  show (zc (ze9 w.p w.clock).1.Links i).Out.Said=[]
  rw[← zww]
  rcases hD with ⟨-,-,-,e4,-⟩ | ⟨-,-,-,e4,-⟩
  ·rw[e4];exact c2
  ·rw[k1'] at e4;cases e4
theorem zfb {L:Links} {i j H:Int} {T:List Power} {f:Bool} (hi:0≤i∧i < 2) (hj:0≤j∧j < 2):zc (zhh L i H T f) j=if j=i then ⟨true,false,H,T,f,[],⟨[],[],0,false⟩,⟨0,0,0,0⟩⟩ else zc L j:=by
 unfold zc zhh
 simp only[zao _ _ hi hj]
 by_cases e:j=i
 ·simp only[if_pos e]
 ·simp only[if_neg e]
theorem zwx {p:zb} {i:Int} (h:(zdw p i).2=0):zaa p=true∧(0≤i∧i < 2)∧p.Links.Gone.get i=false∧p.Links.On.get i=false∧1≤p.Height∧p.Set.length≠0∧(zdw p i).1=zmt p i (p.Stake.Waits.map (zeg i p.Height)) (zsq p):=by
 unfold zdw at h ⊢
 cases hg:zaa p with
 | false=>rw[if_pos hg] at h;cases h
 | true =>
  rw[if_neg (by rw[hg];simp)] at h
  rw[if_neg (by simp)]
  by_cases hi:0≤i∧i < 2
  ·rw[if_pos hi] at h ⊢
   by_cases h1:p.Links.Gone.get i=true
   ·rw[if_pos h1] at h;cases h
   rw[if_neg h1] at h ⊢
   by_cases h2:p.Links.On.get i=true
   ·rw[if_pos h2] at h;cases h
   rw[if_neg h2] at h ⊢
   by_cases h3:p.Height < 1∨p.Set.length=0
   ·rw[if_pos h3] at h;cases h
   rw[if_neg h3]
   simp only[not_or] at h3
   exact ⟨rfl,hi,Bool.eq_false_iff.2 h1,Bool.eq_false_iff.2 h2,by omega,h3.2,rfl⟩
  ·rw[if_neg hi] at h;cases h
theorem zagv {p:zb} (hx:GoodX p) {i:Int} (hi:0≤i∧i < 2) (ho:p.Links.On.get i=false):GoodX (zmt p i (p.Stake.Waits.map (zeg i p.Height)) (zsq p)):=by
 obtain ⟨b1,b2,b3,b4,b5,b6,b7⟩:=hx.1
 have hf:∀ w,(zeg i p.Height w).Number=w.Number∧(zeg i p.Height w).D=w.D∧(zeg i p.Height w).V=w.V∧(zeg i p.Height w).Amount=w.Amount∧(zeg i p.Height w).Height=w.Height∧(zeg i p.Height w).Due=w.Due:=by
  intro w;unfold zeg;split<;>exact ⟨rfl,rfl,rfl,rfl,rfl,rfl⟩
 have gs:GoodS { p.Stake with Waits:=p.Stake.Waits.map (zeg i p.Height) }:=by
  refine ⟨b1,⟨b2.1,b2.2.1,by show (p.Stake.Waits.map _).length≤60;rw[List.length_map];exact b2.2.2⟩,b3,zup (fun w hw=>⟨(hf w).1,(hf w).2.1,(hf w).2.2.1,by rw[(hf w).2.2.2.1];exact hw,(hf w).2.2.2.2.1,(hf w).2.2.2.2.2⟩) b4,b5,?_,b7⟩
  show zqe (p.Stake.Waits.map _)=_
  rw[z7n (fun w=>(hf w).2.2.2.1)];exact b6
 have hlk:∀ j:Int,0≤j∧j < 2→LkX (zmt p i (p.Stake.Waits.map (zeg i p.Height)) (zsq p)) j:=by
  intro j hj
  obtain ⟨a1,a2,a3,a4,a5,a6⟩:=hx.lk hj
  have el:=zfb (L:=p.Links) (H:=p.Height) (T:=p.Set) (f:=zsq p) hi hj
  by_cases e:j=i
  ·rw[if_pos e] at el
   have z:=hx.2.1.1
   exact ⟨by show ¬ ((zc (zhh p.Links i p.Height p.Set (zsq p)) j).On=true∧(zc (zhh p.Links i p.Height p.Set (zsq p)) j).Gone=true);rw[el];simp,by show 0≤(zc (zhh p.Links i p.Height p.Set (zsq p)) j).Base;rw[el];exact z,
    by show (zc (zhh p.Links i p.Height p.Set (zsq p)) j).Base≤p.Height;rw[el];exact Int.le_refl _,by show zx 1 (-1) (zc (zhh p.Links i p.Height p.Set (zsq p)) j).Told=true;rw[el];exact hx.2.2.1,
    by show zcb (zc (zhh p.Links i p.Height p.Set (zsq p)) j).Out;rw[el];exact z2x,by show zat (-1) (zc (zhh p.Links i p.Height p.Set (zsq p)) j).Done=true;rw[el];rfl⟩
  ·rw[if_neg e] at el
   exact ⟨by show ¬ ((zc (zhh p.Links i p.Height p.Set (zsq p)) j).On=true∧(zc (zhh p.Links i p.Height p.Set (zsq p)) j).Gone=true);rw[el];exact a1,by show 0≤(zc (zhh p.Links i p.Height p.Set (zsq p)) j).Base;rw[el];exact a2,
    by show (zc (zhh p.Links i p.Height p.Set (zsq p)) j).Base≤p.Height;rw[el];exact a3,by show zx 1 (-1) (zc (zhh p.Links i p.Height p.Set (zsq p)) j).Told=true;rw[el];exact a4,
    by show zcb (zc (zhh p.Links i p.Height p.Set (zsq p)) j).Out;rw[el];exact a5,by show zat (-1) (zc (zhh p.Links i p.Height p.Set (zsq p)) j).Done=true;rw[el];exact a6⟩
 refine ⟨gs,hx.2.1,hx.2.2.1,okLk_iff.2 (hlk 0 (by omega)),okLk_iff.2 (hlk 1 (by omega)),List.all_eq_true.2 fun b hb=>ask_iff.2 ?_⟩
 obtain ⟨q1,q2,q3,q4⟩:=hx.ask hb
 refine ⟨q1,?_,q3,q4⟩
 show (p.Links.On.set i true).get b.C=true
 rw[zao _ _ hi q1]
 split
 ·rfl
 ·exact q2
theorem zakh {w:Wld} (h:OkW w) (hd:w.deeds < 600) (i:Int):OkW (z0b (zr w) i).1:=by
 unfold z0b
 by_cases h0:(zdw w.p i).2=0
 ·rw[if_neg (by show ¬ (zdw w.p i).2≠0;simpa using h0)]
  obtain ⟨f1,hi,f3,f4,f5,f6,f7⟩:=zwx h0
  have hgb:=zagv h.p hi f4
  have hp:=h.ph;have hq:=h.pq;have d0:=h.d0;have d1:=h.d1
  have e6:(zdw (zr w).p i).1=zmt w.p i (w.p.Stake.Waits.map (zeg i w.p.Height)) (zsq w.p):=f7
  simp only[e6]
  refine z3a (i:=i) h hd rfl rfl hgb (by show w.p.Height≤_;omega) h.pt (by show ((w.p.Queue.length:Nat):Int)≤_;omega) ?_ fun j hj hji=>⟨z5 hi hj hji _,.of ?_⟩
  ·have hci:za (zjh (zr w).consumers i (zje w.p.Set w.p.Height w.clock)) i=zje w.p.Set w.p.Height w.clock:=zap hi _
   have el:=zfb (L:=w.p.Links) (H:=w.p.Height) (T:=w.p.Set) (f:=zsq w.p) hi hi
   rw[if_pos rfl] at el
   have t0:=h.t0;have t1:=h.t1;have z:=h.p.2.1.1
   refine ⟨?_,?_,?_,?_,?_,?_,?_,?_,fun k=>?_⟩
   ·show zjg (za (zjh (zr w).consumers i (zje w.p.Set w.p.Height w.clock)) i)=true
    rw[hci]
    exact zph ⟨rfl,by show (0:Int)≤0;omega,by show (0:Int) < _;omega,t0,by show w.clock≤_;omega,z,by show w.p.Height≤_;omega⟩ z2x h.p.2.2.1 rfl rfl
   ·show (za (zjh (zr w).consumers i (zje w.p.Set w.p.Height w.clock)) i).Height≤w.deeds+1
    rw[hci];show (0:Int)≤_;omega
   ·show (za (zjh (zr w).consumers i (zje w.p.Set w.p.Height w.clock)) i).Time≤w.clock
    rw[hci];exact Int.le_refl _
   ·show (((za (zjh (zr w).consumers i (zje w.p.Set w.p.Height w.clock)) i).Pending.length+(za (zjh (zr w).consumers i (zje w.p.Set w.p.Height w.clock)) i).Ripes.length:Nat):Int)≤w.deeds+1
    rw[hci];show ((0:Nat):Int)≤_;omega
   ·show (za (zjh (zr w).consumers i (zje w.p.Set w.p.Height w.clock)) i).On=(zc (zhh w.p.Links i w.p.Height w.p.Set (zsq w.p)) i).On
    rw[hci,el];rfl
   ·show (za (zjh (zr w).consumers i (zje w.p.Set w.p.Height w.clock)) i).Gone=(zc (zhh w.p.Links i w.p.Height w.p.Set (zsq w.p)) i).Gone
    rw[hci,el];rfl
   ·show ∀ s,s∈(zc (zhh w.p.Links i w.p.Height w.p.Set (zsq w.p)) i).Out.Said→Pk1 s
    rw[el];intro s hs;cases hs
   ·show ∀ s,s∈(za (zjh (zr w).consumers i (zje w.p.Set w.p.Height w.clock)) i).Out.Said→PkB s
    rw[hci];intro s hs;cases hs
   ·have k':(zc (zhh w.p.Links i w.p.Height w.p.Set (zsq w.p)) i).On=false:=k
    rw[el] at k';cases k'
  ·show zc (zhh w.p.Links i w.p.Height w.p.Set (zsq w.p)) j=_
   rw[zfb hi hj,if_neg hji]
 ·rw[if_pos (by exact h0)];exact zkb h hd
theorem zed {L:Links} {i j:Int} (hi:0≤i∧i < 2) (hj:0≤j∧j < 2):zc (zur L i) j=if j=i then { zc L j with On:=false,Gone:=true,Fresh:=false,Done:=[],Out:={ (zc L j).Out with Closed:=true } } else zc L j:=by
 unfold zc zur
 simp only[zao _ _ hi hj]
 by_cases e:j=i
 ·simp only[if_pos e]
 ·simp only[if_neg e]
theorem z3d {w:Wld} (h:OkW w) {i:Int} (hi:0≤i∧i < 2) (ho:(za w.consumers i).On=true):znd w.p i=zpi w.p i∧zsa (za w.consumers i)={ za w.consumers i with On:=false,Gone:=true,Out:={ (za w.consumers i).Out with Closed:=true } }:=by
 have on':w.p.Links.On.get i=true:=by rw[← (h.c i hi).on];exact ho
 exact ⟨by unfold znd;rw[if_pos ⟨h.pr,hi,on'⟩],by unfold zsa;rw[if_neg (by rw[ho];simp)]⟩
theorem zagw {w:Wld} (h:OkW w) (hd:w.deeds < 600) {d:Deed} (hi:0≤d.C∧d.C < 2) (ho:(za w.consumers d.C).On=true):OkW (zqb (zr w) d).1:=by
 unfold zqb
 by_cases h0:(zzl w d).2=0
 ·rw[if_neg (by show ¬ (zzl w d).2≠0;simpa using h0)]
  obtain ⟨f1,f2⟩:=z3d h hi ho
  have hw:=h.c d.C hi
  have e1:znd (zr w).p d.C=zpi w.p d.C:=f1
  have e2:zsa (za (zr w).consumers d.C)={ za w.consumers d.C with On:=false,Gone:=true,Out:={ (za w.consumers d.C).Out with Closed:=true } }:=f2
  simp only[e1,e2]
  obtain ⟨g1,g2,g3,g4,g5⟩:=zas hw.good
  have hz:=hw.size;have hh:=hw.height;have hp:=h.ph;have hq:=h.pq
  have hqf:(w.p.Queue.filter (zz9 d.C)).length≤w.p.Queue.length:=List.length_filter_le _ _
  have el:=zed (L:=w.p.Links) hi hi
  rw[if_pos rfl] at el
  refine z3a (i:=d.C) h hd rfl rfl (goodPr_iff.1 (z93 h.pr hi)).1 (by show w.p.Height≤_;omega) h.pt (by show (((w.p.Queue.filter (zz9 d.C)).length:Nat):Int)≤_;omega) ?_ fun j hj hji=>⟨z5 hi hj hji _,.of ?_⟩
  ·have hci:=zap (C:=(zr w).consumers) hi { za w.consumers d.C with On:=false,Gone:=true,Out:={ (za w.consumers d.C).Out with Closed:=true } }
   refine ⟨?_,?_,?_,?_,?_,?_,?_,?_,fun k k2=>?_⟩
   ·rw[hci];exact zph ⟨rfl,g1.2⟩ g2 g3 g4 g5
   ·rw[hci];show (za w.consumers d.C).Height≤w.deeds+1;omega
   ·rw[hci];exact hw.time
   ·rw[hci];show (((za w.consumers d.C).Pending.length+(za w.consumers d.C).Ripes.length:Nat):Int)≤w.deeds+1;omega
   ·rw[hci];exact (congrArg Link.On el).symm
   ·rw[hci];exact (congrArg Link.Gone el).symm
   ·show ∀ s,s∈(zc (zur w.p.Links d.C) d.C).Out.Said→Pk1 s
    rw[el];exact hw.told
   ·rw[hci];exact hw.said
   ·have k':(zc (zur w.p.Links d.C) d.C).Gone=false:=k2
    rw[el] at k';cases k'
  ·show zc (zur w.p.Links d.C) j=_
   rw[zed hi hj,if_neg hji]
 ·rw[if_pos (by exact h0)];exact zkb h hd
theorem zacx {w:Wld} (h:OkW w) (hd:w.deeds < 600) (d:Deed):OkW (znf (zr w) d).1:=by
 have hm:=zkb h hd
 unfold znf
 by_cases c1:d.Kind < 4∨12 < d.Kind
 ·rw[if_pos c1];exact hm
 rw[if_neg c1]
 by_cases c2:d.C < 0∨2≤d.C
 ·rw[if_pos c2];exact hm
 rw[if_neg c2]
 have hi:0≤d.C∧d.C < 2:=by omega
 by_cases c3:d.Kind≠4∧(zr w).consumers.On.get d.C=false
 ·rw[if_pos c3];exact hm
 rw[if_neg c3]
 by_cases c4:d.Kind=4
 ·rw[if_pos c4];exact zakh h hd _
 rw[if_neg c4]
 have ho:(za w.consumers d.C).On=true:=by
  cases e:(za w.consumers d.C).On with
  | true=>rfl
  | false=>exact absurd ⟨c4,e⟩ c3
 repeat' split
 ·exact zacu h hd hi ho
 ·exact zakg h hd hi ho _
 ·exact zacv h hd hi ho
 ·exact zagw h hd hi ho
 ·exact zanz h hd hi ho _
 ·exact zags h hd hi ho _ _
 ·exact hm
theorem zasj {w:Wld} (h:OkW w) (hd:w.deeds < 600) (d:Deed):OkW (actW (zr w) d).1:=by
 have hm:=zkb h hd
 unfold actW
 repeat' split
 ·exact z98 hm _ _ _
 ·exact z4e hm _ _ _
 ·exact zagp hm _
 ·exact zanw hm _ _
 ·exact zanx hm _
 ·exact zacw h hd
 ·exact zacx h hd d
theorem zhi {w:Wld} (h:OkW w) (d:Deed):OkW (doW w d).1:=by
 unfold doW
 split
 ·exact h
 ·rename_i hd;exact zasj h (by omega) d
theorem zaki:zpf=some newW:=by
 rw[zpf,zwn,Tr.rb zage,Tr.rl];rfl
theorem zan0 (w:Wld):zhn w=some (w.clock,w):=by rw[zhn,zi2,Tr.rl]
theorem zus {l:List Power} (h:l.length*16≤140737488355328):zby l=some l:=by
 rw[zby,zp5,Tr.rg (by rw[za2];omega),Tr.rl]
theorem zzm {l:List Int} (h:l.length*8≤140737488355328):zb4 l=some l:=by
 rw[zb4,zoj,Tr.rg (by rw[zop];omega),Tr.rl]
theorem z99 {p:Packet} (h1:p.Set.length*16≤140737488355328) (h2:p.Done.length*8≤140737488355328):ze1 p=some p:=by
 rw[ze1,zp6,zus h1,zzm h2,Tr.rg (by rfl),Tr.rg (by rfl),Tr.rl];rfl
theorem z5k {l:zi6} (h1:l.Said.length*16≤140737488355328) (h2:l.Due.length*8≤140737488355328):zbm l=some l:=by
 rw[zbm,zok,zzm h2,Tr.rg (by show (0+l.Said.length)*16≤_;omega),Tr.rg (by rfl),Tr.rl];rfl
theorem zaaa {w:Wld} (hf:FitPr 140737488351232 w.p):zar w=some (w.p,w):=by
 have hw:=hf.waits;have hs:=hf.set;have hq:=hf.queue
 have turn:∀ (c:Nat),c < 2→∀ z,(zax (c:Int) w z w.p).run=some (.inl (((c+1:Nat):Int),w,z,w.p)):=by
  intro c hc z
  have e1:=zus (l:=w.p.Links.Told.get c) (by have:=hf.told c;omega)
  have e2:=zzm (l:=w.p.Links.Done.get c) (by have:=hf.done c;omega)
  have e3:=z5k (l:=(zc w.p.Links c).Out) (by have:=hf.said c;show (w.p.Links.Said.get c).length*16≤_;omega) (by have:=hf.due c;show (w.p.Links.Due.get c).length*8≤_;omega)
  simp only[zax]
  rw[Tr.rt (by simp;omega),Tr.rg ⟨by omega,by omega⟩,e1,e2,e3,Tr.rg (by rfl),Tr.rg (by rfl),Tr.rg (by rfl),Tr.rl,zy (by omega)]
  simp only[yy2]
  have hb:0≤(c:Int)∧(c:Int) < 2:=by omega
  unfold zc
  simp only[zos _ hb]
 have l1:∀ z,zdt 0 w z w.p=some (w,z,w.p):=by
  intro z
  rw[zdt,zca (s':=(((1:Nat):Int),w,z,w.p)) (turn 0 (by omega) z),zca (s':=(((2:Nat):Int),w,z,w.p)) (turn 1 (by omega) z),zc3 (by
   show (zax 2 w z w.p).run=_
   simp only[zax]
   rw[Tr.rf (by simp),Tr.rl])]
 have l2:∀ z q,zdu w.p.Queue w.p.Queue.length 0 w z q []=some (w,z,q,w.p.Queue):=by
  intro z q
  rw[zdu]
  have:=zni (F:=fun s:(List Asked)×Int×Int×Wld×zb×zb×(List Asked)=>(zbh s.1 s.2.1 s.2.2.1 s.2.2.2.1 s.2.2.2.2.1 s.2.2.2.2.2.1 s.2.2.2.2.2.2).run) w.p.Queue.length (fun i t=>(w.p.Queue,(w.p.Queue.length:Int),(i:Int),w,z,q,t)) (fun i t=>t=w.p.Queue.take i) (fun _ _=>(w,z,q,w.p.Queue)) ?_ ?_ 0 [] (Nat.zero_le _) rfl
  ·exact this
  ·rintro t rfl
   simp only[zbh];rw[Tr.rf (by simp),Tr.rl,List.take_length]
  ·rintro i t hi ht
   obtain ⟨p1,p2⟩:=hf.ps _ (zfl (l:=w.p.Queue) (k:=i) hi default)
   have htl:t.length≤i:=by rw[ht,List.length_take];omega
   refine .inl ⟨t++[w.p.Queue.getD i default],?_,by rw[ht,zk3 hi default],by trivial⟩
   simp only[zbh,yy4]
   rw[Tr.rt (by simpa using hi),Tr.rg ⟨by omega,by rw[zfa];omega⟩,z99 (by omega) (by omega),Tr.rg (by rfl),Tr.rg (by simp only[zfa,yy5];omega),Tr.rl,zy (by omega)]
   rfl
 rw[zar,zf4,Tr.rg (by rw[zb5];omega),Tr.rb (zus (by omega)),Tr.rb (v:=(w,default,w.p)) (by exact l1 default)]
 simp only[]
 rw[Tr.rb (v:=(w,default,w.p,w.p.Queue)) (by exact l2 default w.p),Tr.rl]
theorem zaab {w:Wld} {i:Int} (hf:(0≤i∧i < 2)→FitC 140737488351232 (za w.consumers i)):zn i w=some (if 0≤i∧i < 2 then za w.consumers i else default,w):=by
 rw[zn,zf6]
 by_cases hi:0≤i∧i < 2
 ·have hf:=hf hi
  have e1:=zus (l:=w.consumers.Set.get i) (by have:(w.consumers.Set.get i).length*16≤_:=hf.set;omega)
  have e3:=z5k (l:=(za w.consumers i).Out) (by have:=hf.said;omega) (by have:=hf.due;omega)
  have hr:(w.consumers.Ripes.get i).length*16≤140737488351232:=hf.ripes
  have hp:(w.consumers.Pending.get i).length*80≤140737488351232:=hf.pend
  have l1:∀ z q,zdv (w.consumers.Pending.get i) (w.consumers.Pending.get i).length 0 w z q []=some (w,z,q,w.consumers.Pending.get i):=by
   intro z q
   have hps:∀ p,p∈w.consumers.Pending.get i→p.Set.length*16≤140737488351232∧p.Done.length*8≤140737488351232:=hf.ps
   generalize w.consumers.Pending.get i=l at *
   rw[zdv]
   have:=zni (F:=fun s:(List Packet)×Int×Int×Wld×Consumer×Consumer×(List Packet)=>(zbi s.1 s.2.1 s.2.2.1 s.2.2.2.1 s.2.2.2.2.1 s.2.2.2.2.2.1 s.2.2.2.2.2.2).run) l.length (fun i t=>(l,(l.length:Int),(i:Int),w,z,q,t)) (fun i t=>t=l.take i) (fun _ _=>(w,z,q,l)) ?_ ?_ 0 [] (Nat.zero_le _) rfl
   ·exact this
   ·rintro t rfl
    simp only[zbi];rw[Tr.rf (by simp),Tr.rl,List.take_length]
   ·rintro k t hk ht
    obtain ⟨p1,p2⟩:=hps _ (zfl (l:=l) (k:=k) hk default)
    have htl:t.length≤k:=by rw[ht,List.length_take];omega
    refine .inl ⟨t++[l.getD k default],?_,by rw[ht,zk3 hk default],by trivial⟩
    simp only[zbi,yy4]
    rw[Tr.rt (by simpa using hk),Tr.rg ⟨by omega,by rw[zf3];omega⟩,Tr.rb (z99 (by omega) (by omega)),Tr.rg (by simp only[zf3,yy5];omega),Tr.rl,zy (by omega)]
  rw[if_pos hi,Tr.rf (by simp;omega),Tr.rg hi,e1,e3,Tr.rg (by rfl),Tr.rg (by rfl),Tr.rg (by rw[zlx];omega)]
  simp only[yy2]
  rw[Tr.rb (v:=(w,default,za w.consumers i,w.consumers.Pending.get i)) (by exact l1 default _),Tr.rl]
  rfl
 ·rw[if_neg hi,Tr.rt (by simp;omega),Tr.rl]
theorem zagx {w:Wld} (h:OkW w) {i:Int} (hi:0≤i∧i < 2) (b:Bool):(z96 (zav w i b)).size≤71:=by
  have hw:=h.c i hi
  unfold z96
  split
  · rename_i hg
    have hmem:(zav w i b).Said.getD (zav w i b).Got.toNat .empty∈(zav w i b).Said:=by
      by_cases h0:(zav w i b).Got.toNat < (zav w i b).Said.length
      · exact zfl h0 _
      · exact absurd hg (by
          cases b with
          | true =>
                    have:0≤(za w.consumers i).Out.Got:=(zas hw.good).2.1.2.2.1
                    show ¬ (za w.consumers i).Out.Got < _
                    have h0':¬ (za w.consumers i).Out.Got.toNat < (za w.consumers i).Out.Said.length:=h0
                    show ¬ (za w.consumers i).Out.Got < (((za w.consumers i).Out.Said.length:Nat):Int)
                    omega
          | false =>
                     have:0≤(zc w.p.Links i).Out.Got:=(h.p.lk hi).line.2.2.1
                     have h0':¬ (zc w.p.Links i).Out.Got.toNat < (zc w.p.Links i).Out.Said.length:=h0
                     show ¬ (zc w.p.Links i).Out.Got < (((zc w.p.Links i).Out.Said.length:Nat):Int)
                     omega)
    generalize (zav w i b).Said.getD (zav w i b).Got.toNat .empty=s at hmem
    have:∃ q,zcs q=0∧s=txt (znb q):=by
      cases b with
      | true=>obtain ⟨q,q1,_,q2⟩:=hw.said s hmem;exact ⟨q,q1,q2⟩
      | false=>obtain ⟨q,q1,_,q2⟩:=hw.told s hmem;exact ⟨q,q1,q2⟩
    obtain ⟨q,q1,rfl⟩:=this
    have:=z21 q1
    rw[zx7,zwt];omega
  · decide
theorem zakj {n:Nat} (h:n≤1000):zcs (zakc n)=0:=by
 have hw:i64.wrap (1+(n:Int))=1+n:=zj (by omega) (by omega)
 unfold zcs zakc
 rw[hw]
 simp only[]
 rw[if_neg (by omega),if_neg (by omega),if_neg (by simp),if_neg (by simp[zx]),if_neg (by simp[zat])]
theorem zask {w:Wld} (h:OkW w) {i:Int} (hi:0≤i∧i < 2) (b f:Bool):zm8 (zav w i b) f=some (zeh (zav w i b) f)∧(zeh (zav w i b) f).size≤71:=by
 have hz:=zagx h hi b
 have hg0:0≤(zav w i b).Got:=by
  cases b with
  | true=>exact (zas (h.c i hi).good).2.1.2.2.1
  | false=>exact (h.p.lk hi).line.2.2.1
 have hE:∀ n:Nat,zbf (⟨3,1,0,i64.wrap (1+(n:Int)),[],[]⟩:Packet)=some (zgu (zakc n)):=fun n=>z2j (by simp) (by simp)
 generalize zav w i b=l at *
 have hsz:(zeh l f).size≤71:=by
  unfold zeh
  cases f with
  | true=>rw[if_pos rfl,zly (zakj (by omega)),zx7,zwt];simp[zakc]
  | false=>rw[if_neg (by simp)];exact hz
 refine ⟨?_,hsz⟩
 rw[zm8,ztx]
 unfold zeh
 unfold z96 at hz ⊢
 by_cases hl:l.Got < ((l.Said.length:Nat):Int)
 ·rw[if_pos hl,Tr.rt (by simpa using hl),Tr.rg ⟨hg0,by show l.Got < ((l.Said.length:Nat):Int);exact hl⟩]
  cases f with
  | true=>rw[Tr.rf (by rfl),if_pos rfl,Tr.rb (hE _),Tr.rl]
  | false=>rw[Tr.rt (by rfl),if_neg (by simp),Tr.rl]
 ·rw[if_neg hl,Tr.rf (by simpa using hl)]
  cases f with
  | true=>rw[Tr.rf (by rfl),if_pos rfl,Tr.rb (hE _),Tr.rl]
  | false=>rw[Tr.rt (by rfl),if_neg (by simp),Tr.rl]
theorem zagy {w:Wld} (hf:FitPr 140737488351232 w.p):zf7 w=some ((zka w).2,(zka w).1):=by
 rw[zf7,zgp,zagh hf,Tr.rg (by rfl)]
 simp only[yy2]
 unfold zka
 by_cases h0:(ze9 w.p w.clock).2.2=0
 ·rw[Tr.rf (by simpa using h0),if_neg (by simpa using h0)]
  have turn:∀ (c:Nat),c < 2→∀ (u:Wld) l z (p:zb),(za6 l (c:Int) u z p).run=some (.inl (l,((c+1:Nat):Int),{ u with heads:={ u.heads with PHeight:=u.heads.PHeight.set c p.Height,PTime:=u.heads.PTime.set c p.Time,PSaid:=u.heads.PSaid.set c (((p.Links.Said.get c).length:Nat):Int),PGot:=u.heads.PGot.set c (u.consumers.Got.get c) } },z,p)):=by
   intro c hc u l z p
   simp only[za6]
   rw[Tr.rt (by simp;omega),Tr.rg ⟨by omega,by omega⟩,Tr.rg ⟨by omega,by omega⟩,Tr.rg ⟨by omega,by omega⟩,Tr.rg ⟨by omega,by omega⟩,Tr.rl,zy (by omega)]
  have loop:∀ l z,zeb l 0 { w with p:=(ze9 w.p w.clock).1 } z (ze9 w.p w.clock).1=some (l,{ w with p:=(ze9 w.p w.clock).1,heads:=zakb w.heads (ze9 w.p w.clock).1 w.consumers },z):=by
   intro l z
   generalize (ze9 w.p w.clock).1=p
   rw[zeb,zca (turn 0 (by omega) _ _ _ _),zca (turn 1 (by omega) _ _ _ _),zc3 (by
    show (za6 _ 2 _ _ _).run=_
    simp only[za6]
    rw[Tr.rf (by simp),Tr.rl])]
   rfl
  rw[Tr.rb (v:=((ze9 w.p w.clock).2.1,{ w with p:=(ze9 w.p w.clock).1,heads:=zakb w.heads (ze9 w.p w.clock).1 w.consumers },⟨0,0⟩)) (by exact loop _ _),Tr.rl]
 ·rw[Tr.rt (by simpa using h0),if_pos h0,Tr.rl];rfl
theorem zacy {C:zc1} {i:Int} (hi:0≤i∧i < 2) (l:zi6):({ C with Said:=C.Said.set i l.Said,Due:=C.Due.set i l.Due,Got:=C.Got.set i l.Got,Closed:=C.Closed.set i l.Closed }:zc1)=zjh C i { za C i with Out:=l }:=by
 unfold zjh za
 simp only[zos _ hi]
theorem zagz {w:Wld} (h:OkW w) {d:Deed} (hi:0≤d.C∧d.C < 2):zf8 d w=some ((zhd w d).2,(zhd w d).1):=by
 rw[zf8,zgq,Tr.rg hi,Tr.rg hi]
 obtain ⟨t1,t2⟩:=zask h hi d.Back d.Forged
 unfold zhd zhc
 cases hb:d.Back with
 | true =>
  rw[hb] at t1 t2
  have e0:(za w.consumers d.C).Out=zav w d.C true:=rfl
  have e1:w.consumers.Got.get d.C=(zav w d.C true).Got:=rfl
  rw[Tr.rt rfl,e0,Tr.rb t1,e1,z41,Tr.rg (by rfl)]
  simp only[yy2]
  have es:z25 w d.C true=w.p.Links.SSaid.get d.C:=rfl
  rw[← es]
  by_cases h0:(zj7 (zav w d.C true) (i64.wrap ((zav w d.C true).Got+1)) (zeh (zav w d.C true) d.Forged) (z25 w d.C true) w.clock).2=0
  ·rw[Tr.rf (by simpa using h0),if_neg (by simpa using h0),Tr.rt rfl,if_pos trivial,zacp h.fit (by omega),Tr.rg (by rfl)]
   simp only[yy2]
   by_cases h1:(zif w.p d.C (zeh (zav w d.C true) d.Forged).data.toList).2=0
   ·rw[Tr.rf (by simpa using h1),if_neg (by simpa using h1),Tr.rl,zacy hi]
   ·rw[Tr.rt (by simpa using h1),if_pos h1,Tr.rl];rfl
  ·rw[Tr.rt (by simpa using h0),if_pos h0,Tr.rl];rfl
 | false =>
  rw[hb] at t1 t2
  have e0:(zc w.p.Links d.C).Out=zav w d.C false:=rfl
  have e1:w.p.Links.Got.get d.C=(zav w d.C false).Got:=rfl
  rw[Tr.rf rfl,e0,Tr.rb t1,e1,z41,Tr.rg (by rfl)]
  simp only[yy2]
  have es:z25 w d.C false=w.consumers.SSaid.get d.C:=rfl
  rw[← es]
  by_cases h0:(zj7 (zav w d.C false) (i64.wrap ((zav w d.C false).Got+1)) (zeh (zav w d.C false) d.Forged) (z25 w d.C false) w.clock).2=0
  ·rw[Tr.rf (by simpa using h0),if_neg (by simpa using h0),Tr.rf rfl,if_neg (by simp),Tr.rb (zar9 ((h.c d.C hi).fit h.d1) (by omega))]
   by_cases h1:(zox (za w.consumers d.C) (zeh (zav w d.C false) d.Forged).data.toList).2=0
   ·rw[Tr.rf (by simpa using h1),if_neg (by simpa using h1),Tr.rl];rfl
   ·rw[Tr.rt (by simpa using h1),if_pos h1,Tr.rl];rfl
  ·rw[Tr.rt (by simpa using h0),if_pos h0,Tr.rl];rfl
theorem zakk {w:Wld} (h:OkW w) {d:Deed} (hi:0≤d.C∧d.C < 2):zgr d w=some ((zqb w d).2,(zqb w d).1):=by
 rw[zgr,zho,Tr.rg hi,Tr.rg hi]
 have hr:=z7s h.fit (c:=d.C)
 unfold zqb zzl
 cases hb:d.Back with
 | true =>
  rw[Tr.rt rfl,if_pos rfl,Tr.rb (z9a _ _ _ _)]
  by_cases h0:(zp8 (za w.consumers d.C).Out d.N (w.consumers.STime.get d.C) (w.consumers.SGot.get d.C)).2=0
  ·rw[Tr.rf (by simpa using h0),if_neg (by simpa using h0),hr,Tr.rg (by rfl),Tr.rb z9t,Tr.rl];rfl
  ·rw[Tr.rt (by simpa using h0),if_pos h0,Tr.rl];rfl
 | false =>
  rw[Tr.rf rfl,if_neg (show ¬ (false=true) by simp),Tr.rb (z9a _ _ _ _)]
  by_cases h0:(zp8 (zc w.p.Links d.C).Out d.N (w.p.Links.STime.get d.C) (w.p.Links.SGot.get d.C)).2=0
  ·rw[Tr.rf (by simpa using h0),if_neg (by simpa using h0),hr,Tr.rg (by rfl),Tr.rb z9t,Tr.rl];rfl
  ·rw[Tr.rt (by simpa using h0),if_pos h0,Tr.rl];rfl
theorem zag0 {w:Wld} (h:OkW w) {d:Deed}:zf9 d w=some ((znf w d).2,(znf w d).1):=by
 rw[zf9,zgs]
 unfold znf
 by_cases c1:d.Kind < 4∨12 < d.Kind
 ·rw[if_pos c1,Tr.rt (by simpa using c1),Tr.rl];rfl
 rw[if_neg c1,Tr.rf (by simp;omega)]
 by_cases c2:d.C < 0∨2≤d.C
 ·rw[if_pos c2,Tr.rt (by simpa using c2),Tr.rl];rfl
 have hi:0≤d.C∧d.C < 2:=by omega
 have hw:=h.c d.C hi
 have hfc:=hw.fit h.d1
 rw[if_neg c2,Tr.rf (by simp;omega),Tr.rg hi]
 by_cases c3:d.Kind≠4∧w.consumers.On.get d.C=false
 ·rw[if_pos c3,Tr.rt (by simpa using c3),Tr.rl];rfl
 rw[if_neg c3,Tr.rf (by
  rw[Bool.eq_false_iff];intro k;apply c3;simpa using k)]
 by_cases c4:d.Kind=4
 ·rw[if_pos c4,Tr.rt (by simpa using c4),z90 h.fit,Tr.rg (by rfl)]
  simp only[yy2]
  unfold z0b
  by_cases h0:(zdw w.p d.C).2=0
  ·obtain ⟨f1,_,f3,f4,f5,f6,f7⟩:=zwx h0
   have hs:(zdw w.p d.C).1.Set.length*16≤140737488355328:=by rw[f7];have:=h.fit.set;show w.p.Set.length*16≤_;omega
   rw[Tr.rf (by simpa using h0),if_neg (by simpa using h0),zani hs,Tr.rg (by rfl),Tr.rg hi,Tr.rl]
   rfl
  ·rw[Tr.rt (by simpa using h0),if_pos h0,Tr.rl];rfl
 rw[if_neg c4,Tr.rf (by simpa using c4)]
 have hsz:=hw.size;have hd1:=h.d1
 by_cases c7:d.Kind=7
 ·have he:zz (za w.consumers d.C) w.clock=some (zt9 w.clock (za w.consumers d.C)):=zaww hfc (by omega)
  rw[if_pos c7,Tr.rt (by simpa using c7),he,Tr.rg (by rfl)]
  simp only[yy2]
  unfold zne
  by_cases h0:(zt9 w.clock (za w.consumers d.C)).2=0
  ·rw[Tr.rt (by simpa using h0),Tr.rg hi,Tr.rg hi,Tr.rg (by omega),Tr.rf (by simpa using h0),if_neg (by simpa using h0),Tr.rl];rfl
  ·rw[Tr.rf (by simpa using h0),Tr.rt (by simpa using h0),if_pos h0,Tr.rl];rfl
 rw[if_neg c7,Tr.rf (by simpa using c7)]
 by_cases c8:d.Kind=8
 ·rw[if_pos c8,Tr.rt (by simpa using c8)]
  unfold z24
  cases hb:d.Back with
  | true =>
   rw[Tr.rt rfl,if_pos rfl,Tr.rg hi,Tr.rg (by omega),Tr.rg hi,Tr.rf rfl,Tr.rl,z95 hi];rfl
  | false =>
   rw[Tr.rf rfl,if_neg (show ¬ (false=true) by simp),Tr.rg hi,Tr.rg (by omega),Tr.rf rfl,Tr.rl];rfl
 rw[if_neg c8,Tr.rf (by simpa using c8)]
 by_cases c9:d.Kind=9
 ·rw[if_pos c9,Tr.rt (by simpa using c9),Tr.rb (zagz h hi),Tr.rl]
 rw[if_neg c9,Tr.rf (by simpa using c9)]
 by_cases c10:d.Kind=10
 ·rw[if_pos c10,Tr.rt (by simpa using c10),Tr.rb (zakk h hi),Tr.rl]
 rw[if_neg c10,Tr.rf (by simpa using c10)]
 by_cases c11:d.Kind=11
 ·rw[if_pos c11,Tr.rt (by simpa using c11),zasa hfc,Tr.rg (by rfl)]
  simp only[yy2]
  unfold putW
  by_cases h0:(z2w (za w.consumers d.C) d.V w.clock).2=0
  ·rw[Tr.rf (by simpa using h0),if_neg (by simpa using h0),Tr.rl]
  ·rw[Tr.rt (by simpa using h0),if_pos h0,Tr.rl];rfl
 rw[if_neg c11,Tr.rf (by simpa using c11)]
 by_cases c12:d.Kind=12
 ·rw[if_pos c12,Tr.rt (by simpa using c12),zaju hfc,Tr.rg (by rfl)]
  simp only[yy2]
  unfold putW
  by_cases h0:(zqa (za w.consumers d.C) d.V d.N w.clock).2=0
  ·rw[Tr.rf (by simpa using h0),if_neg (by simpa using h0),Tr.rl]
  ·rw[Tr.rt (by simpa using h0),if_pos h0,Tr.rl];rfl
 rw[if_neg c12,Tr.rf (by simpa using c12),Tr.rf rfl,Tr.rl,z95 hi]
theorem z0p {w:Wld} (h:OkW w) {d:Deed} (hn:d.N≤9223372036854775807):ze d w=some ((doW w d).2,(doW w d).1):=by
 rw[ze,zmf]
 unfold doW
 by_cases c0:600≤w.deeds
 ·rw[if_pos c0,Tr.rt (by simpa using c0),Tr.rl];rfl
 have hd:w.deeds < 600:=by omega
 have hd0:=h.d0
 have hw:i64.wrap (w.deeds+1)=w.deeds+1:=zj (by omega) (by omega)
 have hm:=zkb h hd
 rw[if_neg c0,Tr.rf (by simpa using c0),hw]
 have e0:({ w with deeds:=w.deeds+1 }:Wld)=zr w:=rfl
 unfold actW
 by_cases c1:d.Kind=1
 ·rw[if_pos c1,Tr.rt (by simpa using c1),Tr.rb (z2y h.fit hn)]
  unfold zqc
  by_cases h0:(zcy w.p d.D d.V d.N).2=0
  ·rw[Tr.rf (by simpa using h0),if_neg (by show ¬ (zcy w.p d.D d.V d.N).2≠0;simpa using h0),Tr.rl];rfl
  ·rw[Tr.rt (by simpa using h0),if_pos (by exact h0),Tr.rl];rfl
 rw[if_neg c1,Tr.rf (by simpa using c1)]
 by_cases c2:d.Kind=2
 ·rw[if_pos c2,Tr.rt (by simpa using c2),zzj h.fit hn,Tr.rg (by rfl)]
  simp only[yy2]
  unfold zqc
  by_cases h0:(zcr w.p d.D d.V d.N w.clock).2=0
  ·rw[Tr.rf (by simpa using h0),if_neg (by show ¬ (zcr w.p d.D d.V d.N w.clock).2≠0;simpa using h0),Tr.rl];rfl
  ·rw[Tr.rt (by simpa using h0),if_pos (by exact h0),Tr.rl];rfl
 rw[if_neg c2,Tr.rf (by simpa using c2)]
 by_cases c3:d.Kind=3
 ·rw[if_pos c3,Tr.rt (by simpa using c3),Tr.rb zajg]
  unfold zqc
  by_cases h0:(za8 w.p.Stake d.V 1).2=0
  ·rw[Tr.rf (by simpa using h0),if_neg (by show ¬ (za8 w.p.Stake d.V 1).2≠0;simpa using h0),Tr.rl];rfl
  ·rw[Tr.rt (by simpa using h0),if_pos (by exact h0),Tr.rl];rfl
 rw[if_neg c3,Tr.rf (by simpa using c3)]
 by_cases c13:d.Kind=13
 ·rw[if_pos c13,Tr.rt (by simpa using c13),Tr.rb (z20 h.fit)]
  unfold zqc
  by_cases h0:(zuc w.p d.V d.N).2=0
  ·rw[Tr.rf (by simpa using h0),if_neg (by show ¬ (zuc w.p d.V d.N).2≠0;simpa using h0),Tr.rl];rfl
  ·rw[Tr.rt (by simpa using h0),if_pos (by exact h0),Tr.rl];rfl
 rw[if_neg c13,Tr.rf (by simpa using c13)]
 by_cases c5:d.Kind=5
 ·rw[if_pos c5,Tr.rt (by simpa using c5)]
  have t0:=h.t0;have t1:=h.t1
  have h1:i64.wrap (1099511627736 - w.clock)=1099511627736 - w.clock:=zj (by omega) (by omega)
  rw[h1]
  unfold z97
  by_cases h0:d.N < 1∨1099511627736 - w.clock < d.N
  ·rw[Tr.rt (by simpa using h0),if_pos (by exact h0),Tr.rl];rfl
  ·have h2:i64.wrap (w.clock+d.N)=w.clock+d.N:=zj (by omega) (by omega)
   rw[Tr.rf (by simp;omega),if_neg (by exact h0),Tr.rl,h2];rfl
 rw[if_neg c5,Tr.rf (by simpa using c5)]
 by_cases c6:d.Kind=6
 ·rw[if_pos c6,Tr.rt (by simpa using c6),e0,Tr.rb (zagy hm.fit),Tr.rl]
 rw[if_neg c6,Tr.rf (by simpa using c6),e0,Tr.rb (zag0 hm),Tr.rl]
def stk7:Stake:=⟨⟨⟨99300,100000,100000,100000⟩,700,0,0⟩,{ zawt with Tokens:=⟨700,0,0,0,0,0⟩,Shares:=⟨700,0,0,0,0,0⟩ },⟨⟨700,0,0,0,0,0⟩,⟨0,0,0,0,0,0⟩,⟨0,0,0,0,0,0⟩,⟨0,0,0,0,0,0⟩⟩,[],1⟩
theorem zakl:GoodS stk7:=by decide
theorem zaac:zbj newS 0 0 700=(stk7,0):=by
 have h:ze7 newS 0 0=0:=by
  unfold ze7
  rw[if_neg (by simpa using zajn),if_neg (by omega)]
 unfold zbj
 rw[if_neg (by simpa using h),if_neg (by decide),if_neg (by omega),if_neg (by decide),if_neg (by decide),if_neg (by decide),if_neg (by decide)]
 rfl
theorem zakm:setS stk7=[⟨0,7⟩]:=by rfl
def p7:zb:={ z9w with Stake:=stk7 }
def p8:zb:=⟨1,5,stk7,[⟨0,7⟩],default,z4b (newM 0 0) (allP []) 5,[]⟩
theorem zasl:zaa p7=true:=by decide
theorem zasm:zaa p8=true:=by decide
theorem zacz:zcy z9w 0 0 700=(p7,0):=by
 unfold zcy
 rw[if_pos z5f]
 show (if (zbj newS 0 0 700).2≠0 then _ else (({ z9w with Stake:=(zbj newS 0 0 700).1 }:zb),(0:Int)))=_
 rw[zaac];rfl
theorem zaw3:ze9 p7 5=(p8,[],0):=by
 have hpay:z4a stk7 5=(stk7,[],0):=by unfold z4a;rw[if_neg (by simpa using zakl)];rfl
 unfold ze9
 rw[if_pos ⟨zasl,by decide,by decide⟩]
 have hp:zmi p7 5=p8:=by
  unfold zmi
  show ({ zhg p7 5 with Stake:=(z4a stk7 5).1,Set:=setS (z4a stk7 5).1,Queue:=[] }:zb)=_
  rw[hpay,zakm];rfl
 rw[hp,zaeq (p:=p8) (c:=0) rfl,zaeq (p:=p8) (c:=1) rfl]
 show (p8,(z4a stk7 5).2.1,(0:Int))=_
 rw[hpay]
def w1:Wld:=⟨0,p7,default,default,1⟩
def w2:Wld:=⟨5,p7,default,default,2⟩
def w3:Wld:=⟨5,p8,default,zakb default p8 default,3⟩
theorem do_1:doW newW ⟨1,0,0,0,700,false,false⟩=(w1,⟨0,0⟩):=by
 show zqc (zr newW) (zcy z9w 0 0 700)=_
 rw[zacz];rfl
theorem do_2:doW w1 ⟨5,0,0,0,5,false,false⟩=(w2,⟨0,5⟩):=by rfl
theorem do_3:doW w2 ⟨6,0,0,0,0,false,false⟩=(w3,⟨0,0⟩):=by
 show zka (zr w2)=_
 unfold zka
 have e:ze9 (zr w2).p (zr w2).clock=(p8,[],0):=zaw3
 rw[e];rfl
theorem do_4:(doW w3 ⟨4,0,0,0,0,false,false⟩).2.N=1∧(doW w3 ⟨4,0,0,0,0,false,false⟩).1.clock=5∧(za (doW w3 ⟨4,0,0,0,0,false,false⟩).1.consumers 0).Set=[⟨0,7⟩]:=by
 have hb:zdw p8 0=(zmt p8 0 (p8.Stake.Waits.map (zeg 0 p8.Height)) (zsq p8),0):=by
  unfold zdw
  rw[if_neg (by rw[zasm];simp),if_pos (by omega),if_neg (by decide),if_neg (by decide),if_neg (by decide)]
 have e:doW w3 ⟨4,0,0,0,0,false,false⟩=z0b (zr w3) 0:=rfl
 rw[e]
 unfold z0b
 have e2:zdw (zr w3).p 0=(zmt p8 0 (p8.Stake.Waits.map (zeg 0 p8.Height)) (zsq p8),0):=hb
 rw[e2]
 exact ⟨rfl,rfl,rfl⟩
theorem okW1:OkW w1:=by have:=zhi zacs ⟨1,0,0,0,700,false,false⟩;rw[do_1] at this;exact this
theorem okW2:OkW w2:=by have:=zhi okW1 ⟨5,0,0,0,5,false,false⟩;rw[do_2] at this;exact this
theorem okW3:OkW w3:=by have:=zhi okW2 ⟨6,0,0,0,0,false,false⟩;rw[do_3] at this;exact this
theorem okW4:OkW (doW w3 ⟨4,0,0,0,0,false,false⟩).1:=zhi okW3 _
structure Alike (w w':Wld):Prop where
 p:w'.p=w.p
 c:w'.consumers=w.consumers
 t:w'.clock=w.clock
theorem Alike.refl (w:Wld):Alike w w:=⟨rfl,rfl,rfl⟩
theorem Alike.more (w:Wld):Alike w (zr w):=⟨rfl,rfl,rfl⟩
def zaad (w:Wld) (s:Stake):Wld:={ zr w with p:={ w.p with Stake:=s } }
def zape (w:Wld) (s:Stake):Wld:={ zr w with p:={ w.p with Stake:=s,Links:=z9x w.p.Links } }
def zse (w:Wld) (n:Int):Wld:={ zr w with clock:=w.clock+n }
def zay (w:Wld):Wld:={ zr w with p:=(ze9 w.p w.clock).1,heads:=zakb w.heads (ze9 w.p w.clock).1 w.consumers }
def zsx (w:Wld) (i:Int):Wld:={ zr w with p:=zmt w.p i (w.p.Stake.Waits.map (zeg i w.p.Height)) (zsq w.p),consumers:=zjh w.consumers i (zje w.p.Set w.p.Height w.clock),heads:=zapb w.heads i }
def z0q (w:Wld) (i:Int) (c:Consumer):Wld:={ zr w with consumers:=zjh w.consumers i c }
def zi5 (w:Wld) (i:Int):Wld:={ zr w with p:={ w.p with Links:=zzk w.p.Links i (z4d w.heads i) } }
def zba (w:Wld) (i:Int):Wld:={ z0q w i (zt9 w.clock (za w.consumers i)).1 with heads:=zaw2 w.heads i (zt9 w.clock (za w.consumers i)).1 (w.p.Links.Got.get i) }
def gotB (w:Wld) (i:Int) (q:Packet):Wld:={ z0q w i { za w.consumers i with Out:={ (za w.consumers i).Out with Got:=(za w.consumers i).Out.Got+1 } } with p:={ w.p with Queue:=w.p.Queue++[⟨i,q⟩] } }
def z05 (w:Wld) (i:Int) (q:Packet):Wld:={ z0q w i { za w.consumers i with Pending:=(za w.consumers i).Pending++[q] } with p:={ w.p with Links:=zyf w.p.Links i { (zc w.p.Links i).Out with Got:=(zc w.p.Links i).Out.Got+1 } } }
def zq4 (w:Wld) (i:Int):Wld:={ z0q w i { za w.consumers i with On:=false,Gone:=true,Out:={ (za w.consumers i).Out with Closed:=true } } with p:=zpi w.p i }
def zaae (w:Wld) (i:Int) (q:Packet) (f:A6 Bool):Consumer:={ za w.consumers i with Out:={ (za w.consumers i).Out with Said:=(za w.consumers i).Out.Said++[txt (znb q)],Due:=(za w.consumers i).Out.Due++[w.clock+40] },Flags:=f }
structure zasn (w:Wld) (i:Int) (b:Bool) (q:Packet):Prop where
 good:zcb (zav w i b)
 opened:(zav w i b).Closed=false
 got:(zav w i b).Got.toNat < (zav w i b).Said.length
 seen:(zav w i b).Got+1≤z25 w i b
 text:(zav w i b).Said.getD (zav w i b).Got.toNat .empty=txt (znb q)
 time:w.clock < (zav w i b).Due.getD (zav w i b).Got.toNat 0
 pk:zcs q=0
theorem z06 {w:Wld} (h:OkW w) (hd:w.deeds < 600) (d:Deed) {P:Wld→Reply→Prop}
  (hno:∀ w' r,Alike w w'→r.Code≠0→P w' r)
  (hdel:d.Kind=1→(zbj w.p.Stake d.D d.V d.N).2=0→P (zaad w (zbj w.p.Stake d.D d.V d.N).1) ⟨0,0⟩)
  (hund:d.Kind=2→(zbc w.p.Stake d.D d.V d.N (z0o w.p w.clock)).2=0→P (zape w (zbc w.p.Stake d.D d.V d.N (z0o w.p w.clock)).1) ⟨0,0⟩)
  (hunj:d.Kind=3→(za8 w.p.Stake d.V 1).2=0→P (zaad w (za8 w.p.Stake d.V 1).1) ⟨0,0⟩)
  (hevi:d.Kind=13→(0≤d.V∧d.V < 6)→(1≤d.N∧d.N≤w.p.Height)→w.p.Stake.Validators.Dead.get d.V=false→P (zaad w (za8 (zef w.p.Stake d.V d.N 50).1 d.V 2).1) ⟨0,0⟩)
  (htick:d.Kind=5→1≤d.N→d.N≤1099511627736 - w.clock→P (zse w d.N) ⟨0,w.clock+d.N⟩)
  (hprov:d.Kind=6→P (zay w) ⟨0,(((ze9 w.p w.clock).2.1.length:Nat):Int)⟩)
  (hbeg:d.Kind=4→(0≤d.C∧d.C < 2)→w.p.Links.Gone.get d.C=false→w.p.Links.On.get d.C=false→1≤w.p.Height→w.p.Set.length≠0→P (zsx w d.C) ⟨0,w.p.Height⟩)
  (hcons:d.Kind=7→(0≤d.C∧d.C < 2)→(za w.consumers d.C).On=true→P (zba w d.C) ⟨0,0⟩)
  (hseen:d.Kind=8→(0≤d.C∧d.C < 2)→(za w.consumers d.C).On=true→d.Back=true→P (zi5 w d.C) ⟨0,0⟩)
  (hsee:d.Kind=8→(0≤d.C∧d.C < 2)→(za w.consumers d.C).On=true→d.Back=false→P (z0q w d.C { za w.consumers d.C with Seen:=zyg w.heads d.C }) ⟨0,0⟩)
  (hback:∀ q,d.Kind=9→(0≤d.C∧d.C < 2)→(za w.consumers d.C).On=true→d.Back=true→zasn w d.C true q→q.Kind≠1→P (gotB w d.C q) ⟨0,(za w.consumers d.C).Out.Got+1⟩)
  (hforth:∀ q,d.Kind=9→(0≤d.C∧d.C < 2)→(za w.consumers d.C).On=true→d.Back=false→zasn w d.C false q→q.Kind=1→P (z05 w d.C q) ⟨0,(zc w.p.Links d.C).Out.Got+1⟩)
  (hlate:d.Kind=10→(0≤d.C∧d.C < 2)→(za w.consumers d.C).On=true→(zzl w d).2=0→P (zq4 w d.C) ⟨0,0⟩)
  (hsay:∀ q f,(d.Kind=11∨d.Kind=12)→(0≤d.C∧d.C < 2)→(za w.consumers d.C).On=true→zcs q=0→(q.Kind=3∧q.Id=(za w.consumers d.C).Id∨q.Kind=4∧q.Id≤(za w.consumers d.C).Id)→(za w.consumers d.C).Out.Closed=false→(za w.consumers d.C).Out.Said.length < 400→P (z0q w d.C (zaae w d.C q f)) ⟨0,0⟩) :
  P (doW w d).1 (doW w d).2:=by
 have hm:=zkb h hd
 have no:∀ e:Int,e≠0→P (noW (zr w) e).1 (noW (zr w) e).2:=fun e he=>hno _ _ (.more w) he
 unfold doW
 rw[if_neg (by omega)]
 unfold actW
 by_cases c1:d.Kind=1
 ·rw[if_pos c1]
  unfold zqc
  have e:zcy (zr w).p d.D d.V d.N=zcy w.p d.D d.V d.N:=rfl
  by_cases h0:(zcy w.p d.D d.V d.N).2=0
  ·rw[e,if_neg (by simpa using h0)]
   unfold zcy at h0 ⊢
   rw[if_pos h.pr] at h0 ⊢
   by_cases h1:(zbj w.p.Stake d.D d.V d.N).2=0
   ·rw[if_neg (by simpa using h1)];exact hdel c1 h1
   ·rw[if_pos h1] at h0;exact absurd h0 h1
  ·rw[e,if_pos h0];exact no _ h0
 rw[if_neg c1]
 by_cases c2:d.Kind=2
 ·rw[if_pos c2]
  unfold zqc
  have e:zcr (zr w).p d.D d.V d.N (zr w).clock=zcr w.p d.D d.V d.N w.clock:=rfl
  by_cases h0:(zcr w.p d.D d.V d.N w.clock).2=0
  ·rw[e,if_neg (by simpa using h0)]
   unfold zcr at h0 ⊢
   have ht:zaa w.p=true∧0≤w.clock∧w.clock≤1099511627776:=⟨h.pr,h.t0,by have:=h.t1;omega⟩
   rw[if_pos ht] at h0 ⊢
   by_cases h1:(zbc w.p.Stake d.D d.V d.N (z0o w.p w.clock)).2=0
   ·rw[if_neg (by simpa using h1)];exact hund c2 h1
   ·rw[if_pos h1] at h0;exact absurd h0 h1
  ·rw[e,if_pos h0];exact no _ h0
 rw[if_neg c2]
 by_cases c3:d.Kind=3
 ·rw[if_pos c3]
  unfold zqc
  by_cases h0:(za8 w.p.Stake d.V 1).2=0
  ·rw[if_neg (by show ¬ (za8 w.p.Stake d.V 1).2≠0;simpa using h0)];exact hunj c3 h0
  ·rw[if_pos (by exact h0)];exact no _ h0
 rw[if_neg c3]
 by_cases c13:d.Kind=13
 ·rw[if_pos c13]
  unfold zqc
  have e:zuc (zr w).p d.V d.N=zuc w.p d.V d.N:=rfl
  by_cases h0:(zuc w.p d.V d.N).2=0
  ·rw[e,if_neg (by simpa using h0)]
   unfold zuc at h0 ⊢
   rw[if_neg (by rw[h.pr];simp)] at h0 ⊢
   by_cases h1:0≤d.V∧d.V < 6
   ·rw[if_pos h1] at h0 ⊢
    by_cases h2:1≤d.N∧d.N≤w.p.Height
    ·rw[if_pos h2] at h0 ⊢
     by_cases h3:w.p.Stake.Validators.Dead.get d.V=true
     ·rw[if_pos h3] at h0;cases h0
     ·rw[if_neg h3];exact hevi c13 h1 h2 (Bool.eq_false_iff.2 h3)
    ·rw[if_neg h2] at h0;cases h0
   ·rw[if_neg h1] at h0;cases h0
  ·rw[e,if_pos h0];exact no _ h0
 rw[if_neg c13]
 by_cases c5:d.Kind=5
 ·rw[if_pos c5]
  unfold z97
  by_cases h0:d.N < 1∨1099511627736 - w.clock < d.N
  ·rw[if_pos (by exact h0)];exact no _ (by omega)
  ·rw[if_neg (by exact h0)];exact htick c5 (by omega) (by omega)
 rw[if_neg c5]
 by_cases c6:d.Kind=6
 ·rw[if_pos c6]
  have ht:zaa w.p=true∧w.p.Time≤w.clock∧w.clock≤1099511627776:=⟨h.pr,h.pt,by have:=h.t1;omega⟩
  unfold zka
  rw[if_neg (by show ¬ (ze9 w.p w.clock).2.2≠0;rw[zacr ht];simp)]
  exact hprov c6
 rw[if_neg c6]
 unfold znf
 by_cases b1:d.Kind < 4∨12 < d.Kind
 ·rw[if_pos b1];exact no _ (by omega)
 rw[if_neg b1]
 by_cases b2:d.C < 0∨2≤d.C
 ·rw[if_pos b2];exact no _ (by omega)
 rw[if_neg b2]
 have hi:0≤d.C∧d.C < 2:=by omega
 by_cases b3:d.Kind≠4∧(zr w).consumers.On.get d.C=false
 ·rw[if_pos b3];exact no _ (by omega)
 rw[if_neg b3]
 by_cases b4:d.Kind=4
 ·rw[if_pos b4]
  unfold z0b
  have e:zdw (zr w).p d.C=zdw w.p d.C:=rfl
  rw[e]
  by_cases h0:(zdw w.p d.C).2=0
  ·obtain ⟨f1,_,f3,f4,f5,f6,f7⟩:=zwx h0
   rw[if_neg (by simpa using h0),f7]
   exact hbeg b4 hi f3 f4 f5 f6
  ·rw[if_pos h0];exact no _ h0
 rw[if_neg b4]
 have ho:(za w.consumers d.C).On=true:=by
  cases e:(za w.consumers d.C).On with
  | true=>rfl
  | false=>exact absurd ⟨b4,e⟩ b3
 have hw:=h.c d.C hi
 have hh:=hw.height
 by_cases b7:d.Kind=7
 ·rw[if_pos b7]
  obtain ⟨e0,-⟩:=zq3 (now:=w.clock) hw.good ho ⟨hw.time,by have:=h.t1;omega⟩ (by omega)
  unfold zne
  rw[if_neg (by show ¬ (zt9 w.clock (za w.consumers d.C)).2≠0;rw[e0];simp)]
  exact hcons b7 hi ho
 rw[if_neg b7]
 by_cases b8:d.Kind=8
 ·rw[if_pos b8]
  unfold z24
  cases hb:d.Back with
  | true=>rw[if_pos rfl];exact hseen b8 hi ho hb
  | false=>rw[if_neg (by simp)];exact hsee b8 hi ho hb
 rw[if_neg b8]
 by_cases b9:d.Kind=9
 ·rw[if_pos b9]
  unfold zhd
  have e1:zhc (zr w) d=zhc w d:=rfl
  rw[e1]
  by_cases h0:(zhc w d).2=0
  ·obtain ⟨f1,f2,f3,f4,f5,f6,f7,f8⟩:=z5j h0
   rw[if_neg (by simpa using h0)]
   have hg0:0≤(zav w d.C d.Back).Got:=f1.2.2.1
   have hmem:∃ q,zcs q=0∧(zav w d.C d.Back).Said.getD (zav w d.C d.Back).Got.toNat .empty=txt (znb q):=by
    have hm:=zfl (l:=(zav w d.C d.Back).Said) (k:=(zav w d.C d.Back).Got.toNat) (by omega) .empty
    generalize (zav w d.C d.Back).Said.getD (zav w d.C d.Back).Got.toNat .empty=s at hm
    cases hb:d.Back with
    | true=>rw[hb] at hm;obtain ⟨q,q1,_,q2⟩:=hw.said s hm;exact ⟨q,q1,q2⟩
    | false=>rw[hb] at hm;obtain ⟨q,q1,_,q2⟩:=hw.told s hm;exact ⟨q,q1,q2⟩
   obtain ⟨q,q1,q2⟩:=hmem
   have ht:(zeh (zav w d.C d.Back) d.Forged).data.toList=znb q:=by rw[f5,q2,zqv]
   have hcm:zasn w d.C d.Back q:=⟨f1,f2,by omega,f4,q2,f6,q1⟩
   cases hb:d.Back with
   | true =>
    rw[hb] at ht hcm f7
    rw[if_pos rfl]
    have e2:zif (zr w).p d.C (zeh (zav (zr w) d.C true) d.Forged).data.toList=zif w.p d.C (znb q):=by rw[← ht];rfl
    rw[e2]
    by_cases h1:(zif w.p d.C (znb q)).2=0
    ·obtain ⟨_,_,_,q4,_,q6,_⟩:=z0c h.pr h1
     rw[zzb q1] at q4 q6
     rw[if_neg (by simpa using h1),q6,f7]
     exact hback q b9 hi ho hb hcm q4
    ·rw[if_pos h1];exact no _ h1
   | false =>
    rw[hb] at ht hcm f7
    rw[if_neg (show ¬ (false=true) by simp)]
    have e2:zox (za (zr w).consumers d.C) (zeh (zav (zr w) d.C false) d.Forged).data.toList=zox (za w.consumers d.C) (znb q):=by rw[← ht];rfl
    rw[e2]
    by_cases h1:(zox (za w.consumers d.C) (znb q)).2=0
    ·obtain ⟨_,_,q4,_,q6,_⟩:=z3c hw.good h1
     rw[zzb q1] at q4 q6
     rw[if_neg (by simpa using h1),q6,f7]
     exact hforth q b9 hi ho hb hcm q4
    ·rw[if_pos h1];exact no _ h1
  ·rw[if_pos h0];exact no _ h0
 rw[if_neg b9]
 by_cases b10:d.Kind=10
 ·rw[if_pos b10]
  unfold zqb
  have e1:zzl (zr w) d=zzl w d:=rfl
  rw[e1]
  by_cases h0:(zzl w d).2=0
  ·obtain ⟨f1,f2⟩:=z3d h hi ho
   have e2:znd (zr w).p d.C=zpi w.p d.C:=f1
   have e3:zsa (za (zr w).consumers d.C)={ za w.consumers d.C with On:=false,Gone:=true,Out:={ (za w.consumers d.C).Out with Closed:=true } }:=f2
   rw[if_neg (by simpa using h0),e2,e3]
   exact hlate b10 hi ho h0
  ·rw[if_pos h0];exact no _ h0
 rw[if_neg b10]
 have hw40:i64.wrap (w.clock+40)=w.clock+40:=zj (by have:=h.t0;omega) (by have:=h.t1;omega)
 by_cases b11:d.Kind=11
 ·rw[if_pos b11]
  unfold putW
  have e1:z2w (za (zr w).consumers d.C) d.V (zr w).clock=z2w (za w.consumers d.C) d.V w.clock:=rfl
  rw[e1]
  by_cases h0:(z2w (za w.consumers d.C) d.V w.clock).2=0
  ·obtain ⟨_,_,_,_,_,_,_,hs,he⟩:=zaeh h0
   obtain ⟨s1,s2,s3,s4,s5,s6⟩:=z3b hw.good (by simp) hs
   rw[if_neg (by simpa using h0),he,s5,hw40]
   exact hsay _ _ (.inl b11) hi ho s1 (.inl ⟨rfl,rfl⟩) s3 s4
  ·rw[if_pos h0];exact no _ h0
 rw[if_neg b11]
 by_cases b12:d.Kind=12
 ·rw[if_pos b12]
  unfold putW
  have e1:zqa (za (zr w).consumers d.C) d.V d.N (zr w).clock=zqa (za w.consumers d.C) d.V d.N w.clock:=rfl
  rw[e1]
  by_cases h0:(zqa (za w.consumers d.C) d.V d.N w.clock).2=0
  ·rw[if_neg (by simpa using h0)]
   unfold zqa at h0 ⊢
   by_cases h1:zjg (za w.consumers d.C)=false∨w.clock < 0∨1099511627776 < w.clock
   ·rw[if_pos h1] at h0;cases h0
   rw[if_neg h1] at h0 ⊢
   by_cases h2:(za w.consumers d.C).On=false∨d.V < 0∨5 < d.V
   ·rw[if_pos h2] at h0;cases h0
   rw[if_neg h2] at h0 ⊢
   by_cases h3:d.N < 1∨(za w.consumers d.C).Id < d.N
   ·rw[if_pos h3] at h0;cases h0
   rw[if_neg h3] at h0 ⊢
   obtain ⟨s1,s2,s3,s4,s5,s6⟩:=z3b hw.good (q:=⟨4,d.N,d.V,maxC (za w.consumers d.C) d.V,[],[]⟩) (by simp) h0
   rw[s5,hw40]
   exact hsay ⟨4,d.N,d.V,maxC (za w.consumers d.C) d.V,[],[]⟩ (za w.consumers d.C).Flags (.inr b12) hi ho s1 (.inr ⟨rfl,by show d.N≤_;omega⟩) s3 s4
  ·rw[if_pos h0];exact no _ h0
 ·omega
theorem OkW.cfit {w:Wld} (h:OkW w) {i:Int} (hi:0≤i∧i < 2):FitC 140737488351232 (za w.consumers i):=(h.c i hi).fit h.d1
theorem zakn {w:Wld} (h:OkW w):zar w=some (w.p,w):=zaaa h.fit
theorem zzn {w:Wld} (h:OkW w) {i:Int} (hi:0≤i∧i < 2):zn i w=some (za w.consumers i,w):=by
 rw[zaab fun hi=>h.cfit hi,if_pos hi]
theorem zan1:ztz=some true:=by
 obtain ⟨e1,e2,e3⟩:=do_4
 rw[ztz,zwp,Tr.rb zaki,Tr.rb (z0p zacs (by decide)),do_1,Tr.rb (z0p okW1 (by decide)),do_2,Tr.rb (z0p okW2 (by decide)),do_3,Tr.rb (z0p okW3 (by decide))]
 simp only[e1]
 rw[Tr.rt (by rfl),Tr.rb (zan0 _),Tr.rt (by rw[e2];rfl),Tr.rb (zzn okW4 (by omega)),Tr.rl,e3]
 rfl
theorem zako {σ ρ τ:Type} {F:σ→Option (σ⊕ρ)} (n:Nat) (mk:Nat→τ→σ) (I:Nat→τ→Prop) (out:τ→ρ)
  (hend:∀ t,I n t→F (mk n t)=some (.inr (out t))) (hstep:∀ i t,i < n→I i t→∃ t',F (mk i t)=some (.inl (mk (i+1) t'))∧I (i+1) t') {t:τ} (h0:I 0 t):∃ t',zdm F (mk 0 t)=some (out t')∧I n t':=by
 obtain ⟨r,h1,t',h2,h3⟩:=zfy (F:=F) n mk I (fun _ _ r=>∃ t',r=out t'∧I n t') (fun t h=>⟨out t,hend t h,t,rfl,h⟩) (fun i t hi h=>by
  obtain ⟨t',k1,k2⟩:=hstep i t hi h
  exact .inl ⟨t',k1,k2,fun r hr=>hr⟩) 0 t (Nat.zero_le _) h0
 exact ⟨t',by rw[h1,h2],h3⟩
def z3e (l:List Deed):Nat:=min l.length 120
theorem zakp {l:List Deed}:((decide (((z3e l:Nat):Int) < ((l.length:Nat):Int)))&&(decide (((z3e l:Nat):Int) < 120)))=false:=by
 unfold z3e
 rw[Bool.and_eq_false_iff,yy8,yy8]
 omega
theorem zakq {l:List Deed} {i:Nat} (h:i < z3e l):((decide ((i:Int) < ((l.length:Nat):Int)))&&(decide ((i:Int) < 120)))=true:=by
 unfold z3e at h
 rw[yy7,decide_eq_true_eq,decide_eq_true_eq]
 omega
theorem zan2 {l:List Deed} {i:Nat} (h:i < z3e l):i < l.length:=by unfold z3e at h;omega
theorem zud (l:List Deed):Sl.len (.deeds l)=l.length:=rfl
def zakr (l:List Deed):Prop:=l.length≤4611686018427387904∧∀ d,d∈l→d.N≤9223372036854775807
theorem zan3 (d:Deed) (r:Reply) (w:Wld):zgt d r w=some (true,w):=by rw[zgt,zwq,Tr.rl]
noncomputable def zan4 (look:Deed→Reply→Wld→Option (Bool×Wld)) (x0:List Deed) (x1:Int) (x2:Wld):Tr (((List Deed)×Int×Wld)⊕((Bool×Wld)⊕(Wld))) :=
 (.ite ((decide (x1 < ((x0.length:Nat):Int)))&&(decide (x1 < 120)))
  (.guard ((0:Int)≤x1∧x1 < ((Sl.len (.deeds x0):Nat):Int))
  (.bind (ze (x0.getD x1.toNat default) x2) fun v3 =>
  (.guard ((0:Int)≤x1∧x1 < ((Sl.len (.deeds x0):Nat):Int))
  (.guard ((look (x0.getD x1.toNat default) v3.1 v3.2).isSome=true)
  (.ite (!((look (x0.getD x1.toNat default) v3.1 v3.2).getD default).1)
   (.leaf (.inr (.inl (false,((look (x0.getD x1.toNat default) v3.1 v3.2).getD default).2))))
   (.leaf (.inl (x0,i64.wrap (x1+1),((look (x0.getD x1.toNat default) v3.1 v3.2).getD default).2))))))))
  (.leaf (.inr (.inr x2))))
theorem zaez {w:Wld} (d:Deed) (h:w.deeds < 600):(doW w d).1.deeds=w.deeds+1:=by
 have hp:∀ r,(zqc (zr w) r).1.deeds=w.deeds+1:=by intro r;unfold zqc;split<;>rfl
 have hq:∀ i r,(putW (zr w) i r).1.deeds=w.deeds+1:=by intro i r;unfold putW;split<;>rfl
 unfold doW
 rw[if_neg (by omega)]
 unfold actW
 repeat' split
 ·exact hp _
 ·exact hp _
 ·exact hp _
 ·exact hp _
 ·unfold z97;split<;>rfl
 ·unfold zka;split<;>rfl
 ·unfold znf
  repeat' split
  ·rfl
  ·rfl
  ·rfl
  ·unfold z0b;split<;>rfl
  ·unfold zne;split<;>rfl
  ·unfold z24;split<;>rfl
  ·unfold zhd;repeat' split
   all_goals rfl
  ·unfold zqb;split<;>rfl
  ·exact hq _ _
  ·exact hq _ _
  ·rfl
theorem zag1 {look:Deed→Reply→Wld→Option (Bool×Wld)} (J:Wld→Prop) (h0:J newW) {l:List Deed} (hl:zakr l)
  (hstep:∀ w d,OkW w→J w→w.deeds < 120→J (doW w d).1∧look d (doW w d).2 (doW w d).1=some (true,(doW w d).1)) :
  ∃ w,zdm (fun s:(List Deed)×Int×Wld=>(zan4 look s.1 s.2.1 s.2.2).run) (l,0,newW)=some (.inr w)∧OkW w∧J w∧w.deeds=z3e l:=by
 have:=zako (F:=fun s:(List Deed)×Int×Wld=>(zan4 look s.1 s.2.1 s.2.2).run) (z3e l) (fun i (w:Wld)=>(l,(i:Int),w)) (fun i w=>OkW w∧J w∧w.deeds=i) (fun w=>.inr w) ?_ ?_ (t:=newW) ⟨zacs,h0,rfl⟩
 ·exact this
 ·rintro w ⟨h,_,_⟩
  simp only[zan4]
  rw[Tr.rf zakp,Tr.rl]
 ·rintro i w hi ⟨h,hj,hd⟩
  have hlt:=zan2 hi
  have hn:=hl.2 _ (zfl (l:=l) (k:=i) hlt default)
  have ho:=zhi h (l.getD i default)
  have h120:w.deeds < 120:=by unfold z3e at hi;omega
  obtain ⟨j1,j2⟩:=hstep w (l.getD i default) h hj h120
  refine ⟨(doW w (l.getD i default)).1,?_,ho,j1,by rw[zaez _ (by omega),hd];omega⟩
  simp only[zan4]
  rw[yy4,Tr.rt (zakq hi),Tr.rg ⟨by omega,by rw[zud];omega⟩,Tr.rb (z0p h hn),Tr.rg ⟨by omega,by rw[zud];omega⟩,j2,Tr.rg (by rfl),Tr.rf (by rfl),Tr.rl,zy (by have:=hl.1;omega)]
  rfl
structure Grow (w w':Wld) (i:Int):Prop where
 link:(zc w.p.Links i).Out.Said <+: (zc w'.p.Links i).Out.Said
 cons:(za w.consumers i).Out.Said <+: (za w'.consumers i).Out.Said
theorem Grow.one {w w':Wld} {i j:Int} {c:Consumer} (hj:0≤j∧j < 2) (hi:0≤i∧i < 2) (hl:(zc w.p.Links i).Out.Said <+: (zc w'.p.Links i).Out.Said) (hc:w'.consumers=zjh w.consumers j c) (h:(za w.consumers j).Out.Said <+: c.Out.Said):Grow w w' i:=by
 refine ⟨hl,?_⟩
 rw[hc,zk4 hj hi]
 split
 ·rename_i e;rw[e];exact h
 ·exact List.prefix_refl _
def DeadI (s t:Stake):Prop:=∀ v:Int,0≤v→v < 6→(s.Validators.Dead.get v=true→t.Validators.Dead.get v=true)∧s.Validators.Lost.get v≤t.Validators.Lost.get v∧(s.Validators.Lost.get v < t.Validators.Lost.get v→s.Validators.Dead.get v=false∧t.Validators.Dead.get v=true)
theorem DeadI.same {s t:Stake} (h1:t.Validators.Dead=s.Validators.Dead) (h2:t.Validators.Lost=s.Validators.Lost):DeadI s t:=by
 intro v _ _
 rw[h1,h2]
 exact ⟨id,Int.le_refl _,fun h=>absurd h (Int.lt_irrefl _)⟩
theorem DeadI.refl (s:Stake):DeadI s s:=.same rfl rfl
theorem DeadI.trans {s t u:Stake} (h:DeadI s t) (k:DeadI t u):DeadI s u:=by
 intro v h0 h6
 obtain ⟨a1,a2,a3⟩:=h v h0 h6
 obtain ⟨b1,b2,b3⟩:=k v h0 h6
 refine ⟨fun x=>b1 (a1 x),by omega,fun x=>?_⟩
 by_cases e:s.Validators.Lost.get v < t.Validators.Lost.get v
 ·exact ⟨(a3 e).1,b1 (a3 e).2⟩
 ·obtain ⟨c1,c2⟩:=b3 (by omega)
  refine ⟨?_,c2⟩
  cases hd:s.Validators.Dead.get v with
  | false=>rfl
  | true=>rw[a1 hd] at c1;cases c1
