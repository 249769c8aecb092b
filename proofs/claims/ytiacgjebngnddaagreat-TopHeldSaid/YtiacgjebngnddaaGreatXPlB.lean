/-
  The plain lemmas.
-/
import Derived.Test.YtiacgjebngnddaaGreatXAbInsert
import Derived.Test.YtiacgjebngnddaaGreatXFBank
import Derived.Test.YtiacgjebngnddaaGreatXFCodec
import Derived.Test.YtiacgjebngnddaaGreatXFCons
import Derived.Test.YtiacgjebngnddaaGreatXFLine
import Derived.Test.YtiacgjebngnddaaGreatXFProv
import Derived.Test.YtiacgjebngnddaaGreatXFStakeA
import Derived.Test.YtiacgjebngnddaaGreatXFStakeB
import Derived.Test.YtiacgjebngnddaaGreatXFTop
import Derived.Test.YtiacgjebngnddaaGreatXFWld
import Derived.Test.YtiacgjebngnddaaGreatXPlA
namespace Go.Proofs.YtiacgjebngnddaaGreat.Ab
open Go Go.RowKit
open Go.IntKind (i64 u64)
set_option linter.unusedVariables false
set_option linter.unusedSimpArgs false
def zlf (l:List Power) (id now:Int):Consumer:=⟨true,false,0,now,id,l,[],[],⟨false,false,false,false,false,false⟩,⟨[],[],0,false⟩,⟨0,0,0,0⟩⟩
theorem zakt {l:List Power} {id now:Int} (hl:l.length*16≤140737488355328):zgs l id now=some (zlf l id now):=by
 rw[zgs,zlo,Tr.rb (zaed hl),Tr.rl];rfl
def ztf (c:Consumer) (s:List UInt8):Consumer×Int :=
 if zio c=false then (c,2) else if c.On=false then (c,4) else if (zar s).2≠0 then (c,(zar s).2) else if (zar s).1.Kind≠1 then (c,3)
 else ({ c with Pending:=c.Pending++[(zar s).1] },0)
theorem zaph {c:Consumer} {a:ByteArray} (h:FitC 140737488351232 c) (ha:a.size≤140737488355328):zhs c a=some (ztf c a.data.toList):=by
 have e1:zcd a=some (zar a.data.toList):=z1m (s:=a.data.toList) (by have:a.data.toList.length=a.size:=rfl;omega)
 have e2:=h.pend
 rw[zhs,znf,Tr.rb e1,Tr.rb (zrm h)]
 simp only[zaee (l:=c.Pending) (by omega),Option.isSome_some,yy2]
 unfold ztf
 cases hg:zio c with
 | false=>rw[Tr.rt (by rfl),Tr.rl,if_pos rfl]
 | true =>
  rw[Tr.rf (by rfl),if_neg (by simp)]
  cases ho:c.On with
  | false=>rw[Tr.rt (by rfl),Tr.rl,if_pos rfl]
  | true =>
   rw[Tr.rf (by rfl),if_neg (by simp)]
   by_cases hd:(zar a.data.toList).2=0
   ·rw[Tr.rf (by simpa using hd),if_neg (by simpa using hd)]
    by_cases hk:(zar a.data.toList).1.Kind=1
    ·rw[Tr.rf (by simpa using hk),if_neg (by simpa using hk),Tr.rg (by trivial),Tr.rg (by simp only[zfq,yy5];omega),Tr.rl]
    ·rw[Tr.rt (by simpa using hk),if_pos hk,Tr.rl]
   ·rw[Tr.rt (by simpa using hd),if_pos hd,Tr.rl]
def zr4 (p:Packet) (now:Int) (c:Consumer):Int×Consumer :=
 if (zgi p).2≠0 then ((zgi p).2,c)
 else if (z5x c.Out (zgi p).1 (i64.wrap (now+40))).2≠0 then ((z5x c.Out (zgi p).1 (i64.wrap (now+40))).2,c)
 else (0,{ c with Out:=(z5x c.Out (zgi p).1 (i64.wrap (now+40))).1 })
theorem zacq {p:Packet} {now:Int} {c:Consumer} (h:(zr4 p now c).1≠0):(zr4 p now c).2=c:=by
 unfold zr4 at h ⊢
 split
 ·rfl
 ·split
  ·rfl
  ·rename_i h1 h2
   rw[if_neg h1,if_neg h2] at h
   exact absurd rfl h
theorem z34 {p:Packet} {now:Int} {c:Consumer}:(zr4 p now c).2.Ripes=c.Ripes:=by
 unfold zr4
 repeat' split
 all_goals rfl
theorem zacr {p:Packet} {now:Int} {c:Consumer} (h1:p.Set.length*16≤140737488351232) (h2:p.Done.length*8≤140737488351232):za6 p now c=some (zr4 p now c):=by
 rw[za6,zo9,Tr.rb (z1k h1 h2)]
 unfold zr4
 by_cases he:(zgi p).2=0
 ·rw[if_neg (by simpa using he),Tr.rf (by simpa using he),Tr.rb (zame _ _ _)]
  by_cases hs:(z5x c.Out (zgi p).1 (i64.wrap (now+40))).2=0
  ·rw[if_neg (by simpa using hs),Tr.rf (by simpa using hs),Tr.rl]
  ·rw[if_pos hs,Tr.rt (by simpa using hs),Tr.rl]
 ·rw[if_pos he,Tr.rt (by simpa using he),Tr.rl]
def clrC (c:Consumer) (v:Int):Consumer:={ c with Flags:=c.Flags.set v false }
def z8g (c:Consumer) (l:List Int):Consumer:=l.foldl clrC c
theorem z1w:∀ (l:List Int) (c:Consumer),z8g c l={ c with Flags:=l.foldl (fun f v=>f.set v false) c.Flags }
 | [],c=>rfl
 | v::l,c=>by unfold z8g;rw[List.foldl_cons];exact (z1w l (clrC c v)).trans rfl
def zmp (now:Int) (c:Consumer) (p:Packet):Consumer :=
 { z8g { c with Set:=zxd c.Set p.Set,Id:=p.Id } p.Done with Ripes:=(z8g { c with Set:=zxd c.Set p.Set,Id:=p.Id } p.Done).Ripes++[⟨p.Id,i64.wrap (now+15)⟩] }
theorem zrn (now:Int) (c:Consumer) (p:Packet) :
  zmp now c p={ c with Set:=zxd c.Set p.Set,Id:=p.Id,Flags:=p.Done.foldl (fun f v=>f.set v false) c.Flags,Ripes:=c.Ripes++[⟨p.Id,i64.wrap (now+15)⟩] }:=by
 unfold zmp;rw[z1w]
def zop (now:Int):List Ripe→Consumer→Consumer
 | [],c=>c
 | r::rs,c=>if r.Due≤now then (if (zr4 ⟨2,r.Id,0,0,[],[]⟩ now c).1≠0 then c else zop now rs { (zr4 ⟨2,r.Id,0,0,[],[]⟩ now c).2 with Ripes:=rs }) else c
def zxs (now:Int) (c:Consumer):Consumer×Int :=
 if zio c=false then (c,2) else if c.On=false then (c,4) else if now < c.Time∨1099511627776 < now then (c,2)
 else (zop now (c.Pending.foldl (zmp now) { c with Height:=i64.wrap (c.Height+1),Time:=now }).Ripes { c.Pending.foldl (zmp now) { c with Height:=i64.wrap (c.Height+1),Time:=now } with Pending:=[] },0)
theorem zauc {now x2 x3:Int} {x1:List Packet} {l:List Int} {c z:Consumer} {p:Packet} (hl:l.length≤9223372036854775807) (hv:∀ v,v∈l→0≤v∧v≤5) :
  zi8 now x1 x2 x3 l l.length 0 c z p=some (now,x1,x2,x3,z8g c l,z,p):=by
 rw[zi8]
 refine zjf (F:=fun s:Int×(List Packet)×Int×Int×(List Int)×Int×Int×Consumer×Consumer×Packet=>(zeq s.1 s.2.1 s.2.2.1 s.2.2.2.1 s.2.2.2.2.1 s.2.2.2.2.2.1 s.2.2.2.2.2.2.1 s.2.2.2.2.2.2.2.1 s.2.2.2.2.2.2.2.2.1 s.2.2.2.2.2.2.2.2.2).run) l 0
  (fun i t=>(now,x1,x2,x3,l,(l.length:Int),(i:Int),t,z,p)) (fun _ _=>True) clrC (fun t=>(now,x1,x2,x3,t,z,p)) ?_ ?_ c trivial
 ·intro t _
  simp only[zeq];rw[Tr.rf (by simp),Tr.rl]
 ·intro i t hi _
  have hm:=hv _ (zdg (l:=l) (k:=i) hi 0)
  refine ⟨?_,trivial⟩
  simp only[zeq,yy4]
  rw[Tr.rt (by simpa using hi),Tr.rg ⟨by omega,by rw[znz];omega⟩,Tr.rg (by omega),Tr.rl,zv (by omega)]
  rfl
theorem z1x {l:List Packet} (h:l.all zl4=true):∀ p,p∈l→zca p=0∧p.Kind=1∧(∀ v,v∈p.Done→0≤v∧v≤5):=by
 intro p hp
 have h1:=List.all_eq_true.1 h p hp
 unfold zl4 at h1
 simp only[yy7,beq_iff_eq] at h1
 obtain ⟨g1,g2,g3,g4,g5,g6,g7,g8,g9,g10,_,_⟩:=zmu h1.2
 exact ⟨h1.2,h1.1,ztn g10 (by omega)⟩
theorem zaud {now:Int} {l:List Packet} {c z:Consumer} (hl:l.length≤9223372036854775807) (hg:l.all zl4=true) (hs:c.Set.length≤9223372036854775807)
  (hp:∀ p,p∈l→p.Set.length*16≤140737488351232∧p.Done.length*8≤140737488351232) (hr:(c.Ripes.length+l.length)*16≤140737488355328) :
  zi9 now l l.length 0 c z=some (now,l.foldl (zmp now) c,z):=by
 rw[zi9]
 refine zjf (F:=fun s:Int×(List Packet)×Int×Int×Consumer×Consumer=>(zer s.1 s.2.1 s.2.2.1 s.2.2.2.1 s.2.2.2.2.1 s.2.2.2.2.2).run) l default
  (fun i t=>(now,l,(l.length:Int),(i:Int),t,z)) (fun i t=>t.Ripes.length=c.Ripes.length+i∧t.Set.length≤9223372036854775807) (zmp now) (fun t=>(now,t,z)) ?_ ?_ c ⟨rfl,hs⟩
 ·intro t _
  simp only[zer];rw[Tr.rf (by simp),Tr.rl]
 ·intro i t hi ht
  obtain ⟨t1,t2⟩:=ht
  have hm:=zdg (l:=l) (k:=i) hi default
  obtain ⟨p1,p2⟩:=hp _ hm
  obtain ⟨q1,q2,q3⟩:=z1x hg _ hm
  have hset:=z1d (fun v=>z7y (l.getD i default).Set v (zdr t.Set v))
  refine ⟨?_,by rw[zrn];simp only[yy6,yy5];omega,by rw[zrn];unfold zxd;simp only[];omega⟩
  simp only[zer,yy4]
  rw[Tr.rt (by simpa using hi),Tr.rg ⟨by omega,by rw[zfq];omega⟩,Tr.rb (zajy t2 (by omega)),Tr.rb (zauc (by omega) q3)]
  simp only[]
  rw[Tr.rg (by simp only[zlb,yy5,z1w];omega),Tr.rl,zv (by omega)]
  rfl
theorem zamj {now:Int} {z:Consumer}:∀ (rs:List Ripe) (c:Consumer),c.Ripes=rs→zbm now c z=some (zop now rs c,z)
 | [],c,h=>by
  rw[zbm]
  refine zew ?_
  simp only[zc5,h]
  rw[Tr.rg (by simp),Tr.rf (by simp),Tr.rl]
  rfl
 | r::rs,c,h=>by
  have hlen:(Sl.len (.ripes (r::rs)))=rs.length+1:=rfl
  unfold zop
  by_cases hd:r.Due≤now
  ·rw[if_pos hd]
   by_cases hs:(zr4 ⟨2,r.Id,0,0,[],[]⟩ now c).1=0
   ·rw[if_neg (by simpa using hs),← zamj rs { (zr4 ⟨2,r.Id,0,0,[],[]⟩ now c).2 with Ripes:=rs } rfl,zbm,zbm]
    refine zcj ?_
    simp only[zc5,h,List.getD_cons_zero,hlen,z34]
    rw[Tr.rg (by intro _;exact ⟨⟨by omega,by omega⟩,trivial⟩),Tr.rt (by simp[hd]),Tr.rg (by omega),Tr.rb (zacr (by simp) (by simp)),Tr.rf (by simpa using hs)]
    simp only[z34,h,hlen]
    rw[Tr.rg (by omega),Tr.rl]
    simp only[List.drop_succ_cons,List.drop_zero,yy4,Nat.add_sub_cancel,List.take_length]
   ·rw[if_pos hs,zbm]
    refine zew ?_
    simp only[zc5,h,List.getD_cons_zero,hlen]
    rw[Tr.rg (by intro _;exact ⟨⟨by omega,by omega⟩,trivial⟩),Tr.rt (by simp[hd]),Tr.rg (by omega),Tr.rb (zacr (by simp) (by simp)),Tr.rt (by simpa using hs),Tr.rl,zacq hs]
  ·rw[if_neg hd,zbm]
   refine zew ?_
   simp only[zc5,h,List.getD_cons_zero,hlen]
   rw[Tr.rg (by intro _;exact ⟨⟨by omega,by omega⟩,trivial⟩),Tr.rf (by simp[hd]),Tr.rl]
theorem zbq {c:Consumer} (h:zio c=true):zaaw c∧zd4 c.Out∧zw 1 (-1) c.Set=true∧c.Ripes.all zji=true∧c.Pending.all zl4=true:=by
 unfold zio at h
 simp only[yy7,decide_eq_true_eq] at h
 exact ⟨h.1.1.1.1,h.1.1.1.2,h.1.1.2,h.1.2,h.2⟩
theorem zaue {now:Int} {c:Consumer} (h:FitC 140737488351232 c) (hr:(c.Ripes.length+c.Pending.length)*16≤140737488355328):zu c now=some (zxs now c):=by
 have e1:=h.set;have e2:=h.pend;have e3:=h.ripes
 rw[zu,zpa,Tr.rb (zrm h)]
 unfold zxs
 cases hg:zio c with
 | false=>rw[Tr.rt (by rfl),Tr.rl,if_pos rfl]
 | true =>
  obtain ⟨_,_,_,_,hp⟩:=zbq hg
  rw[Tr.rf (by rfl),if_neg (by simp)]
  cases ho:c.On with
  | false=>rw[Tr.rt (by rfl),Tr.rl,if_pos rfl]
  | true =>
   rw[Tr.rf (by rfl),if_neg (by simp)]
   by_cases ht:now < c.Time∨1099511627776 < now
   ·rw[if_pos ht,Tr.rt (by simpa using ht),Tr.rl]
   ·rw[if_neg ht,Tr.rf (by simp;omega),Tr.rb (zaef (by omega))]
    rw[Tr.rb (zaud (by omega) hp (by simp only[];omega) h.ps (by simp only[];omega))]
    simp only[]
    rw[Tr.rb (zamj _ _ rfl),Tr.rl]<;>first | rw[ho] | rfl
theorem zus {now:Int}:∀ (l:List Packet) (c:Consumer),(l.foldl (zmp now) c).Ripes.length=c.Ripes.length+l.length∧(l.foldl (zmp now) c).Out=c.Out∧(l.foldl (zmp now) c).On=c.On∧(l.foldl (zmp now) c).Gone=c.Gone∧(l.foldl (zmp now) c).Height=c.Height∧(l.foldl (zmp now) c).Time=c.Time
 | [],c=>⟨rfl,rfl,rfl,rfl,rfl,rfl⟩
 | p::l,c=>by
  rw[List.foldl_cons]
  obtain ⟨h1,h2,h3,h4,h5,h6⟩:=zus l (zmp now c p)
  rw[zrn] at h1 h2 h3 h4 h5 h6 ⊢
  refine ⟨?_,h2,h3,h4,h5,h6⟩
  rw[h1]
  show (c.Ripes++[(⟨p.Id,i64.wrap (now+15)⟩:Ripe)]).length+l.length=_
  rw[yy6,yy5,List.length_cons]
  omega
theorem z35:∀ {l:List Power} {p v:Int},zw 1 p l=true→zdr l v=0∨1≤zdr l v
 | [],_,_,_=>.inl rfl
 | a::l,p,v,h=>by
  rw[zw] at h
  simp only[yy7,decide_eq_true_eq] at h
  unfold zdr
  split
  ·exact .inr h.1.1.2
  ·exact z35 h.2
def z1y (c:Consumer) (v now:Int):Consumer×Int :=
 if zio c=false∨now < 0∨1099511627776 < now then (c,2) else if c.On=false∨v < 0∨5 < v∨zdr c.Set v=0 then (c,4) else if c.Flags.get v=true then (c,5)
 else if (zr4 ⟨3,c.Id,v,zdr c.Set v,[],[]⟩ now c).1≠0 then (c,(zr4 ⟨3,c.Id,v,zdr c.Set v,[],[]⟩ now c).1)
 else ({ (zr4 ⟨3,c.Id,v,zdr c.Set v,[],[]⟩ now c).2 with Flags:=(zr4 ⟨3,c.Id,v,zdr c.Set v,[],[]⟩ now c).2.Flags.set v true },0)
theorem zapi {c:Consumer} {v now:Int} (h:FitC 140737488351232 c):zdu c v now=some (z1y c v now):=by
 have e1:=h.set
 have hsay:=fun n=>zacr (p:=⟨3,c.Id,v,n,[],[]⟩) (now:=now) (c:=c) (by simp) (by simp)
 rw[zdu,znh,Tr.rb (zrm h)]
 simp only[zacp (l:=c.Set) (v:=v) (by omega),hsay,Option.isSome_some,yy2]
 unfold z1y
 by_cases h1:zio c=false∨now < 0∨1099511627776 < now
 ·rw[if_pos h1,Tr.rt (by simpa[or_assoc] using h1),Tr.rl]
 ·rw[if_neg h1,Tr.rf (by rw[Bool.eq_false_iff];intro k;apply h1;simpa[or_assoc] using k),Tr.rg (by simp)]
  by_cases h2:c.On=false∨v < 0∨5 < v∨zdr c.Set v=0
  ·rw[if_pos h2,Tr.rt (by
    simp only[Bool.or_eq_true,Bool.not_eq_true',decide_eq_true_eq,beq_iff_eq]
    rcases h2 with h2 | h2 | h2 | h2
    ·exact .inl (.inl (.inl h2))
    ·exact .inl (.inl (.inr h2))
    ·exact .inl (.inr (by omega))
    ·exact .inr h2),Tr.rl]
  ·simp only[not_or] at h2
   rw[if_neg (by simp only[not_or];exact h2),Tr.rf (by
    simp only[Bool.or_eq_false_iff,Bool.not_eq_false',yy8,beq_eq_false_iff_ne]
    exact ⟨⟨⟨by simpa using h2.1,h2.2.1⟩,by omega⟩,h2.2.2.2⟩),Tr.rg (by omega)]
   by_cases h3:c.Flags.get v=true
   ·rw[if_pos h3,Tr.rt h3,Tr.rl]
   ·rw[if_neg h3,Tr.rf (by simpa using h3),Tr.rg (by trivial),Tr.rg (by trivial)]
    by_cases h4:(zr4 ⟨3,c.Id,v,zdr c.Set v,[],[]⟩ now c).1=0
    ·rw[if_neg (by simpa using h4),Tr.rf (by simpa using h4),Tr.rg (by omega),Tr.rl]
    ·rw[if_pos h4,Tr.rt (by simpa using h4),Tr.rl,zacq h4]
def maxC (c:Consumer) (v:Int):Int:=if zdr c.Set v=0 then 1 else zdr c.Set v
def zpj (c:Consumer) (v id now:Int):Consumer×Int :=
 if zio c=false∨now < 0∨1099511627776 < now then (c,2) else if c.On=false∨v < 0∨5 < v then (c,4) else if id < 1∨c.Id < id then (c,2)
 else ((zr4 ⟨4,id,v,maxC c v,[],[]⟩ now c).2,(zr4 ⟨4,id,v,maxC c v,[],[]⟩ now c).1)
theorem zahj {c:Consumer} {v id now:Int} (h:FitC 140737488351232 c):zco c v id now=some (zpj c v id now):=by
 have e1:=h.set
 rw[zco,zj5,Tr.rb (zrm h)]
 unfold zpj
 by_cases h1:zio c=false∨now < 0∨1099511627776 < now
 ·rw[if_pos h1,Tr.rt (by simpa[or_assoc] using h1),Tr.rl]
 ·rw[if_neg h1,Tr.rf (by rw[Bool.eq_false_iff];intro k;apply h1;simpa[or_assoc] using k)]
  by_cases h2:c.On=false∨v < 0∨5 < v
  ·rw[if_pos h2,Tr.rt (by
    simp only[Bool.or_eq_true,Bool.not_eq_true',decide_eq_true_eq]
    rcases h2 with h2 | h2 | h2
    ·exact .inl (.inl h2)
    ·exact .inl (.inr h2)
    ·exact .inr (by omega)),Tr.rl]
  ·simp only[not_or] at h2
   rw[if_neg (by simp only[not_or];exact h2),Tr.rf (by
    simp only[Bool.or_eq_false_iff,Bool.not_eq_false',yy8]
    exact ⟨⟨by simpa using h2.1,h2.2.1⟩,by omega⟩)]
   by_cases h3:id < 1∨c.Id < id
   ·rw[if_pos h3,Tr.rt (by simpa using h3),Tr.rl]
   ·have hg:zio c=true:=by simp only[not_or] at h1;simpa using h1.1
    have hf:=z35 (v:=v) (zbq hg).2.2.1
    have hm:(if zdr c.Set v > 1 then zdr c.Set v else 1)=maxC c v:=by
     unfold maxC
     rcases hf with hf | hf
     ·rw[if_neg (by omega),if_pos hf]
     ·rw[if_neg (show ¬ zdr c.Set v=0 by omega)]
      split<;>omega
    rw[if_neg h3,Tr.rf (by simp;omega),Tr.rb (zacp (by omega)),hm,Tr.rb (zacr (by simp) (by simp))]
    by_cases h4:(zr4 ⟨4,id,v,maxC c v,[],[]⟩ now c).1=0
    ·rw[Tr.rf (by simpa using h4),Tr.rl,h4]
    ·rw[Tr.rt (by simpa using h4),Tr.rl]
def zvy (c:Consumer):Consumer:=if c.On=false then c else { c with On:=false,Gone:=true,Out:={ c.Out with Closed:=true } }
theorem z8h {c:Consumer}:zfz c=some (zvy c):=by
 rw[zfz,zj6]
 unfold zvy
 cases ho:c.On with
 | false=>rw[Tr.rt (by rfl),Tr.rl,if_pos rfl]
 | true=>rw[Tr.rf (by rfl),Tr.rl,if_neg (by simp)]
theorem zaax {l:zgz} {s:ByteArray} {u:Int} (h:(z5x l s u).2=0):zd4 l∧0≤u∧l.Closed=false∧l.Said.length < 400∧z5x l s u=({ l with Said:=l.Said++[s],Due:=l.Due++[u] },0):=by
 unfold z5x at h ⊢
 by_cases h1:¬ zd4 l∨u < 0
 ·rw[if_pos h1] at h;cases h
 ·rw[if_neg h1] at h ⊢
  simp only[not_or,Classical.not_not] at h1
  by_cases h2:l.Closed=true
  ·rw[if_pos h2] at h;cases h
  ·rw[if_neg h2] at h ⊢
   by_cases h3:400≤l.Said.length
   ·rw[if_pos h3] at h;cases h
   ·rw[if_neg h3]
    exact ⟨h1.1,by omega,by simpa using h2,by omega,rfl⟩
theorem zakv {l:zgz} {s:ByteArray} {u:Int} (h1:zd4 l) (h2:0≤u) (h3:l.Closed=false) (h4:l.Said.length < 400):z5x l s u=({ l with Said:=l.Said++[s],Due:=l.Due++[u] },0):=by
 unfold z5x
 rw[if_neg (by simp only[not_or,Classical.not_not];exact ⟨h1,by omega⟩),if_neg (by rw[h3];simp),if_neg (by omega)]
theorem z36 {l:zgz} {s:ByteArray} {u:Int} (h1:zd4 l) (h2:0≤u) (h4:l.Said.length < 400):zd4 { l with Said:=l.Said++[s],Due:=l.Due++[u] }:=by
 obtain ⟨g1,g2,g3,g4,g5⟩:=h1
 refine ⟨by simp[g1],by simp only[yy6,yy5];omega,g3,by simp only[yy6,yy5];omega,?_⟩
 simp only[List.any_append,g5,Bool.false_or,List.any_cons,List.any_nil,Bool.or_false,yy8]
 omega
theorem zahk {p:Packet} {now:Int} {c:Consumer} (h:(zr4 p now c).1=0):zca p=0∧(z5x c.Out (txt (zl3 p)) (i64.wrap (now+40))).2=0 ∧
  zr4 p now c=(0,{ c with Out:={ c.Out with Said:=c.Out.Said++[txt (zl3 p)],Due:=c.Out.Due++[i64.wrap (now+40)] } }):=by
 have hg:zca p=0:=by
  refine Classical.byContradiction fun hn=>?_
  unfold zr4 at h
  rw[zaai hn,if_pos hn] at h
  exact hn h
 unfold zr4 at h ⊢
 rw[zlc hg,if_neg (by simp)] at h ⊢
 simp only at h ⊢
 by_cases hs:(z5x c.Out (txt (zl3 p)) (i64.wrap (now+40))).2=0
 ·rw[if_neg (by simpa using hs),(zaax hs).2.2.2.2]
  exact ⟨hg,rfl,rfl⟩
 ·rw[if_pos hs] at h
  exact absurd h hs
theorem zakw {p:Packet} {now:Int} {c:Consumer} (hg:zca p=0) (h1:zd4 c.Out) (h2:0≤i64.wrap (now+40)) (h3:c.Out.Closed=false) (h4:c.Out.Said.length < 400) :
  zr4 p now c=(0,{ c with Out:={ c.Out with Said:=c.Out.Said++[txt (zl3 p)],Due:=c.Out.Due++[i64.wrap (now+40)] } }):=by
 unfold zr4
 rw[zlc hg,if_neg (by simp)]
 simp only
 rw[zakv h1 h2 h3 h4,if_neg (by simp)]
theorem zoq {c:Consumer} (h1:zaaw c) (h2:zd4 c.Out) (h3:zw 1 (-1) c.Set=true) (h4:c.Ripes.all zji=true) (h5:c.Pending.all zl4=true):zio c=true:=by
 unfold zio
 rw[decide_eq_true h1,decide_eq_true h2,h3,h4,h5];rfl
theorem zakx {now:Int} {c:Consumer} (h1:zio c=true) (h2:c.On=true) (h3:c.Time≤now) (h4:now≤1099511627776) :
  zxs now c=(zop now (c.Pending.foldl (zmp now) { c with Height:=i64.wrap (c.Height+1),Time:=now }).Ripes { c.Pending.foldl (zmp now) { c with Height:=i64.wrap (c.Height+1),Time:=now } with Pending:=[] },0):=by
 unfold zxs
 rw[if_neg (by rw[h1];simp),if_neg (by rw[h2];simp),if_neg (by omega)]
theorem zacs {c:Consumer} {v now:Int} (h:(z1y c v now).2=0):zio c=true∧0≤now∧now≤1099511627776∧c.On=true∧0≤v∧v≤5∧zdr c.Set v≠0∧(zr4 ⟨3,c.Id,v,zdr c.Set v,[],[]⟩ now c).1=0 ∧
  z1y c v now=({ (zr4 ⟨3,c.Id,v,zdr c.Set v,[],[]⟩ now c).2 with Flags:=(zr4 ⟨3,c.Id,v,zdr c.Set v,[],[]⟩ now c).2.Flags.set v true },0):=by
 unfold z1y at h ⊢
 by_cases h1:zio c=false∨now < 0∨1099511627776 < now
 ·rw[if_pos h1] at h;cases h
 ·rw[if_neg h1] at h ⊢
  by_cases h2:c.On=false∨v < 0∨5 < v∨zdr c.Set v=0
  ·rw[if_pos h2] at h;cases h
  ·rw[if_neg h2] at h ⊢
   by_cases h3:c.Flags.get v=true
   ·rw[if_pos h3] at h;cases h
   ·rw[if_neg h3] at h ⊢
    by_cases h4:(zr4 ⟨3,c.Id,v,zdr c.Set v,[],[]⟩ now c).1=0
    ·rw[if_neg (by simpa using h4)]
     simp only[not_or] at h1 h2
     exact ⟨by simpa using h1.1,by omega,by omega,by simpa using h2.1,by omega,by omega,h2.2.2.2,h4,rfl⟩
    ·rw[if_pos h4] at h
     exact absurd h h4
theorem z1z:zd4 ⟨[],[],0,false⟩:=⟨rfl,by decide,by decide,by decide,by decide⟩
theorem zahl {id:Int} (h1:1≤id) (h2:id≤1099511627776):zca ⟨2,id,0,0,[],[]⟩=0:=by
 unfold zca
 rw[if_neg (by simp),if_neg (by simp;omega),if_neg (by simp),if_neg (by simp[zw]),if_neg (by simp[zal])]
theorem zaay {m p q:Int} {l:List Power} (h:zw m q l=true) (hp:p≤q):zw m p l=true:=by
 cases l with
 | nil=>rfl
 | cons a l =>
  simp only[zw,yy7,decide_eq_true_eq] at h ⊢
  exact ⟨⟨⟨⟨by omega,h.1.1.1.2⟩,h.1.1.2⟩,h.1.2⟩,h.2⟩
theorem zmv {m p w n:Int} {s l:List Power} (hs:s=[]∨(s=[⟨w,n⟩]∧m≤n∧n≤1125899906842624)) (hp:p < w) (hw:w≤5) (hl:zw m w l=true):zw m p (s++l)=true:=by
 rcases hs with rfl | ⟨rfl,h1,h2⟩
 ·exact zaay hl (by omega)
 ·simp only[List.cons_append,List.nil_append,zw,yy7,decide_eq_true_eq]
  exact ⟨⟨⟨⟨hp,hw⟩,h1⟩,h2⟩,hl⟩
theorem zyf {w n:Int} (h:n≤1125899906842624):zxc w n=[]∨(zxc w n=[⟨w,n⟩]∧(1:Int)≤n∧n≤1125899906842624):=by
 unfold zxc
 by_cases hn:0 < n
 ·rw[if_pos hn];exact .inr ⟨rfl,by omega,h⟩
 ·rw[if_neg hn];exact .inl rfl
theorem zaky {f:Nat→Int} (h:∀ v,f v≤1125899906842624):zw 1 (-1) (zjn f)=true:=by
 rw[z5w]
 exact zmv (zyf (h 0)) (by omega) (by omega) (zmv (zyf (h 1)) (by omega) (by omega) (zmv (zyf (h 2)) (by omega) (by omega) (zmv (zyf (h 3)) (by omega) (by omega)
  (zmv (zyf (h 4)) (by omega) (by omega) (zmv (zyf (h 5)) (by omega) (by omega) rfl)))))
abbrev zfn (L:Links) (c:Int):zgz:=⟨L.Said.get c,L.Due.get c,L.Got.get c,L.Closed.get c⟩
def z8i (p:za) (c:Int):Bool := !(p.Links.On.get c&&p.Links.Gone.get c)&&decide (0≤p.Links.Base.get c)&&decide (p.Links.Base.get c≤p.Height)&&zw 1 (-1) (p.Links.Told.get c)&&decide (zd4 (zfn p.Links c))&&zal (-1) (p.Links.Done.get c)
def zt7 (p:za) (a:Asked):Bool:=decide (0≤a.C)&&decide (a.C < 2)&&p.Links.On.get a.C&&(zca a.P==0) && !(a.P.Kind==1)
def zy1 (p:za):Prop:=0≤p.Height∧p.Height < 1099511627776∧0≤p.Time∧p.Time≤1099511627776
instance (p:za):Decidable (zy1 p):=inferInstanceAs (Decidable (_∧_))
def zag (p:za):Bool:=decide (GoodS p.Stake)&&decide (zy1 p)&&zw 1 (-1) p.Set&&z8i p 0&&z8i p 1&&p.Queue.all (zt7 p)
structure FitPr (R:Nat) (p:za):Prop where
 waits:p.Stake.Waits.length*64≤R
 set:p.Set.length*16≤R
 told:∀ c,(p.Links.Told.get c).length*16≤R
 done:∀ c,(p.Links.Done.get c).length*8≤R
 said:∀ c,(p.Links.Said.get c).length*16≤R
 due:∀ c,(p.Links.Due.get c).length*8≤R
 queue:p.Queue.length*88≤R
 ps:∀ a,a∈p.Queue→a.P.Set.length*16≤R∧a.P.Done.length*8≤R
theorem FitPr.mono {R S:Nat} {p:za} (h:FitPr R p) (hr:R≤S):FitPr S p :=
 ⟨Nat.le_trans h.waits hr,Nat.le_trans h.set hr,fun c=>Nat.le_trans (h.told c) hr,fun c=>Nat.le_trans (h.done c) hr,fun c=>Nat.le_trans (h.said c) hr,fun c=>Nat.le_trans (h.due c) hr,Nat.le_trans h.queue hr,
  fun a ha=>⟨Nat.le_trans (h.ps a ha).1 hr,Nat.le_trans (h.ps a ha).2 hr⟩⟩
theorem zahm {L:Links} {c:Int} {p:za} {k:Link} {l:List Int} (hp:k.Done=l) (hl:l.length≤9223372036854775807) :
  ∃ r,znj L c l l.length 0 p k=some r∧(match r with | .inl b=>b=false∧zal (-1) l=false | .inr x=>x=(L,c,p)∧zal (-1) l=true):=by
 have:=zqs (F:=fun s:Links×Int×(List Int)×Int×Int×za×Link=>(zf0 s.1 s.2.1 s.2.2.1 s.2.2.2.1 s.2.2.2.2.1 s.2.2.2.2.2.1 s.2.2.2.2.2.2).run)
  (fun s=>s.1=L∧s.2.1=c∧s.2.2.1=l∧s.2.2.2.1=l.length∧0≤s.2.2.2.2.1∧s.2.2.2.2.1≤l.length∧s.2.2.2.2.2.1=p∧s.2.2.2.2.2.2=k∧(0 < s.2.2.2.2.1→0≤zmn l s.2.2.2.2.1)) (fun s=>l.length - s.2.2.2.2.1.toNat)
  (fun s r=>match r with | .inl b=>b=false∧zal (zmn l s.2.2.2.2.1) (l.drop s.2.2.2.2.1.toNat)=false | .inr x=>x=(L,c,p)∧zal (zmn l s.2.2.2.2.1) (l.drop s.2.2.2.2.1.toNat)=true) ?_ (L,c,l,(l.length:Int),0,p,k) ⟨rfl,rfl,rfl,rfl,by simp,by simp,rfl,rfl,by simp⟩
 ·exact this
 ·rintro ⟨y0,y1,x0,x1,x2,x3,x4⟩ ⟨g1,g2,h1,h2,h3,h4,h5,g3,h6⟩
  simp only at g1 g2 g3 h1 h2 h3 h4 h5 h6
  rw[g1,g2,g3,h1,h2,h5] at *
  simp only[zf0,hp]
  by_cases hc:x2 < l.length
  ·have hs:=za0 (l:=l) (k:=x2.toNat) (by omega) 0
   rw[Tr.rt (by simpa using hc),Tr.rg ⟨h3,hc⟩,Tr.rg (by
    intro h _
    simp only[decide_eq_true_eq] at h
    rw[zj (x:=x2 - 1) (by omega) (by omega)]
    exact ⟨⟨by omega,by simp only[Sl.len];omega⟩,trivial⟩)]
   rw[hs]
   have hp:(decide (x2 > 0)&&decide (l.getD (i64.wrap (x2 - 1)).toNat 0≥l.getD x2.toNat 0))=(decide (x2 > 0)&&decide (zmn l x2≥l.getD x2.toNat 0)):=by
    by_cases h0:x2 > 0
    ·rw[zj (x:=x2 - 1) (by omega) (by omega)]
     unfold zmn
     rw[if_neg (by omega)]
    ·simp[h0]
   rw[hp]
   generalize hq:l.getD x2.toNat 0=q at *
   by_cases hd:zmn l x2 < q∧q≤5
   ·obtain ⟨d1,d2⟩:=hd
    have hw:i64.wrap (x2+1)=x2+1:=zj (by omega) (by omega)
    have hpv:zmn l (x2+1)=q:=by unfold zmn;rw[if_neg (by omega),show x2+1 - 1=x2 by omega,hq]
    have hq0:0≤q:=by
     by_cases h0:x2 > 0
     ·have:=h6 h0;omega
     ·have:zmn l x2 = -1:=by unfold zmn;rw[if_pos (by omega)]
      omega
    refine .inl ⟨_,by rw[Tr.rf (by simp;omega),Tr.rl,hw],⟨rfl,rfl,rfl,rfl,?_,?_,rfl,rfl,?_⟩,?_,?_⟩
    ·simp only[];omega
    ·simp only[];omega
    ·simp only[];rw[hpv];intro _;omega
    ·simp only[];omega
    ·simp only[]
     rw[hpv,show (x2+1).toNat=x2.toNat+1 by omega]
     intro r hr
     rw[zal,decide_eq_true d1,decide_eq_true d2]
     simpa using hr
   ·refine .inr ⟨_,by rw[Tr.rt (by
     by_cases h0:x2 > 0
     ·have:=h6 h0
      simp[h0];omega
     ·have:zmn l x2 = -1:=by unfold zmn;rw[if_pos (by omega)]
      simp[h0];omega),Tr.rl],?_⟩
    refine ⟨rfl,?_⟩
    rw[zal]
    simp only[Bool.and_eq_false_iff,yy8]
    omega
  ·refine .inr ⟨_,by rw[Tr.rf (by simpa using hc),Tr.rl],?_⟩
   refine ⟨rfl,?_⟩
   rw[List.drop_eq_nil_of_le (by omega)];rfl
theorem zakz {l:List Power} (hl:l.length≤9223372036854775807) :
  ∃ r,zom l l l.length 0=some r∧(match r with | .inl b=>b=false∧zw 1 (-1) l=false | .inr x=>zw 1 (-1) l=true):=by
 have:=zqs (F:=fun s:(List Power)×(List Power)×Int×Int=>(zgt s.1 s.2.1 s.2.2.1 s.2.2.2).run)
  (fun s=>s.1=l∧s.2.1=l∧s.2.2.1=l.length∧0≤s.2.2.2∧s.2.2.2≤l.length ∧ -1≤zf3 l s.2.2.2∧(0 < s.2.2.2→0≤zf3 l s.2.2.2)) (fun s=>l.length - s.2.2.2.toNat)
  (fun s r=>match r with | .inl b=>b=false∧zw 1 (zf3 l s.2.2.2) (l.drop s.2.2.2.toNat)=false | .inr x=>zw 1 (zf3 l s.2.2.2) (l.drop s.2.2.2.toNat)=true) ?_ (l,l,(l.length:Int),0) ⟨rfl,rfl,rfl,by simp,by simp,by simp[zf3],by simp⟩
 ·exact this
 ·rintro ⟨y0,x0,x1,x2⟩ ⟨g1,h1,h2,h3,h4,h6,h7⟩
  simp only at g1 h1 h2 h3 h4 h6 h7
  rw[g1,h1,h2] at *
  simp only[zgt]
  by_cases hc:x2 < l.length
  ·have hs:=za0 (l:=l) (k:=x2.toNat) (by omega) default
   rw[Tr.rt (by simpa using hc),Tr.rg ⟨h3,hc⟩,Tr.rg (by
    intro h _
    simp only[decide_eq_true_eq] at h
    rw[zj (x:=x2 - 1) (by omega) (by omega)]
    exact ⟨⟨by omega,by simp only[Sl.len];omega⟩,trivial⟩)]
   rw[hs]
   have hp:(decide (x2 > 0)&&decide ((l.getD (i64.wrap (x2 - 1)).toNat default).V≥(l.getD x2.toNat default).V))=(decide (x2 > 0)&&decide (zf3 l x2≥(l.getD x2.toNat default).V)):=by
    by_cases h0:x2 > 0
    ·rw[zj (x:=x2 - 1) (by omega) (by omega)]
     unfold zf3
     rw[if_neg (by omega)]
    ·simp[h0]
   rw[hp]
   generalize hq:l.getD x2.toNat default=q at *
   by_cases hd:zf3 l x2 < q.V∧q.V≤5∧1≤q.N∧q.N≤1125899906842624
   ·obtain ⟨d1,d2,d3,d4⟩:=hd
    have hw:i64.wrap (x2+1)=x2+1:=zj (by omega) (by omega)
    have hpv:zf3 l (x2+1)=q.V:=by unfold zf3;rw[if_neg (by omega),show x2+1 - 1=x2 by omega,hq]
    refine .inl ⟨_,by rw[Tr.rf (by simp;omega),Tr.rl,hw],⟨rfl,rfl,rfl,?_,?_,?_,?_⟩,?_,?_⟩
    ·simp only[];omega
    ·simp only[];omega
    ·simp only[];rw[hpv];omega
    ·simp only[];rw[hpv];intro _;omega
    ·simp only[];omega
    ·simp only[]
     rw[hpv,show (x2+1).toNat=x2.toNat+1 by omega]
     intro r hr
     rw[zw,decide_eq_true d1,decide_eq_true d2,decide_eq_true d3,decide_eq_true d4]
     simpa using hr
   ·refine .inr ⟨_,by rw[Tr.rt (by
     by_cases h0:x2 > 0
     ·have:=h7 h0
      simp[h0];omega
     ·have:zf3 l x2 = -1:=by unfold zf3;rw[if_pos (by omega)]
      simp[h0];omega),Tr.rl],?_⟩
    refine ⟨rfl,?_⟩
    rw[zw]
    simp only[Bool.and_eq_false_iff,yy8]
    omega
  ·refine .inr ⟨_,by rw[Tr.rf (by simpa using hc),Tr.rl],?_⟩
   rw[List.drop_eq_nil_of_le (by omega)];rfl
theorem ztu {l:List Power} (hl:l.length≤9223372036854775807):zc9 l=some (zw 1 (-1) l):=by
 obtain ⟨r,h1,h2⟩:=zakz hl
 rw[zc9,zpc]
 cases r with
 | inl b=>rw[Tr.ri h1,Tr.rl,h2.1,h2.2]
 | inr x=>rw[Tr.rj h1,Tr.rl,h2]
theorem zauf {p:za} {a:Asked} (h:a.P.Set.length*16≤140737488351232∧a.P.Done.length*8≤140737488351232):zja a p=some (!zt7 p a,p):=by
 rw[zja,zj7,Tr.rg (by
  intro h0
  simp only[Bool.or_eq_false_iff,yy8] at h0
  exact ⟨⟨by omega,by omega⟩,trivial⟩),Tr.rg (fun _=>⟨by rw[zxe h.1 h.2];rfl,trivial⟩),Tr.rl,zxe h.1 h.2]
 congr 2
 unfold zt7
 simp only[yy2]
 have e1:decide (a.C < 0) = !decide (0≤a.C):=by rw[← decide_not];congr 1;exact propext ⟨fun h=>by omega,fun h=>by omega⟩
 have e2:decide (a.C≥2) = !decide (a.C < 2):=by rw[← decide_not];congr 1;exact propext ⟨fun h=>by omega,fun h=>by omega⟩
 rw[e1,e2]
 simp only[Bool.not_and,Bool.not_not]
 rfl
theorem zapj {l:List Asked} {p:za} (hl:l.length≤9223372036854775807) (hp:∀ a,a∈l→a.P.Set.length*16≤140737488351232∧a.P.Done.length*8≤140737488351232) :
  zb1 l p=some (!l.all (zt7 p),p):=by
 obtain ⟨r,h1,h2⟩:=zgh (F:=fun s:(List Asked)×Int×Int×za=>(zaa s.1 s.2.1 s.2.2.1 s.2.2.2).run) l.length
  (fun i (_:Unit)=>(l,(l.length:Int),(i:Int),p)) (fun i _=>True) (fun i _ r=>match r with | .inl k=>(0≤k.1∧k.2=p)∧(l.drop i).all (zt7 p)=false | .inr q=>q=p∧(l.drop i).all (zt7 p)=true) (by
   intro t _
   refine ⟨.inr p,?_,rfl,?_⟩
   ·simp only[zaa];rw[Tr.rf (by simp),Tr.rl]
   ·rw[List.drop_length];rfl) (by
   intro i t hi _
   have hs:=za0 (l:=l) (k:=i) hi default
   have hm:=zdg (l:=l) (k:=i) hi default
   simp only[zaa,yy4]
   rw[Tr.rt (by simpa using hi),Tr.rg ⟨by omega,by show (i:Int) < (l.length:Nat);omega⟩,Tr.rb (zauf (hp _ hm)),hs]
   simp only[List.all_cons]
   obtain ⟨b,hb⟩:∃ b,b=zt7 p (l.getD i default):=⟨_,rfl⟩
   rw[← hb]
   cases b with
   | true =>
    refine .inl ⟨(),?_,trivial,?_⟩
    ·rw[Tr.rf (show (!true)=false from rfl),Tr.rl,zv (by omega)]
    ·intro r hr
     cases r with
     | inl x=>exact ⟨hr.1,by rw[hr.2];rfl⟩
     | inr x=>rw[Bool.true_and];exact hr
   | false =>
    refine .inr ⟨.inl (i,p),?_,⟨by simp only[];omega,rfl⟩,by rfl⟩
    rw[Tr.rt (show (!false)=true from rfl),Tr.rl]) 0 () (by omega) trivial
 have h1:zdi l l.length 0 p=some r:=h1
 rw[zb1,zb7]
 cases r with
 | inl k =>
  simp only[List.drop_zero] at h2
  rw[Tr.rb (v:=k) (by rw[zb6,za2,Tr.ri h1,Tr.rl]),Tr.rl,h2.2,h2.1.2]
  simp[h2.1.1]
 | inr k =>
  simp only[List.drop_zero] at h2
  rw[Tr.rb (v:=(-1,k)) (by rw[zb6,za2,Tr.rj h1,Tr.rl]),Tr.rl,h2.2,h2.1]
  rfl
theorem zaz9 (x y b c d e:Bool):(((((x&&y) || !b) || !c) || !d) || !e) = !(!(x&&y)&&b&&c&&d&&e):=by
 cases x<;>cases y<;>cases b<;>cases c<;>cases d<;>cases e<;>rfl
theorem z8j {p:za} (hf:FitPr 140737488351232 p) {c:Nat} (hc:c < 2) :
  (zcp p.Links c p).run=some (if z8i p c=true then .inl (p.Links,((c+1:Nat):Int),p) else .inr (.inl false)):=by
 simp only[zcp]
 have ht:=hf.told c
 have hd:=hf.done c
 rw[Tr.rt (by simp;omega),Tr.rg ⟨by omega,by omega⟩,Tr.rg (fun _=>⟨by rw[ztu (by omega)];rfl,trivial⟩),Tr.rg (fun _=>⟨by rw[zx9];rfl,trivial⟩),ztu (by omega),zx9]
 simp only[yy2]
 have e:((((((p.Links.On.get (c:Int))&&(p.Links.Gone.get (c:Int)))||(decide ((p.Links.Base.get (c:Int)) < 0)))||(decide ((p.Links.Base.get (c:Int)) > p.Height)))||(!zw 1 (-1) (p.Links.Told.get (c:Int))))||(!decide (zd4 (zfn p.Links c)))) =
   !(!(p.Links.On.get (c:Int)&&p.Links.Gone.get (c:Int))&&decide (0≤p.Links.Base.get (c:Int))&&decide (p.Links.Base.get (c:Int)≤p.Height)&&zw 1 (-1) (p.Links.Told.get (c:Int))&&decide (zd4 (zfn p.Links c))):=by
  have e1:decide (p.Links.Base.get (c:Int) < 0) = !decide (0≤p.Links.Base.get (c:Int)):=by rw[← decide_not];congr 1;exact propext ⟨fun h=>by omega,fun h=>by omega⟩
  have e2:decide (p.Links.Base.get (c:Int) > p.Height) = !decide (p.Links.Base.get (c:Int)≤p.Height):=by rw[← decide_not];congr 1;exact propext ⟨fun h=>by omega,fun h=>by omega⟩
  rw[e1,e2]
  exact zaz9 _ _ _ _ _ _
 rw[show zfn p.Links (c:Int)=(⟨p.Links.Said.get (c:Int),p.Links.Due.get (c:Int),p.Links.Got.get (c:Int),p.Links.Closed.get (c:Int)⟩:zgz) from rfl] at e
 rw[e]
 unfold z8i
 rw[show zfn p.Links (c:Int)=(⟨p.Links.Said.get (c:Int),p.Links.Due.get (c:Int),p.Links.Got.get (c:Int),p.Links.Closed.get (c:Int)⟩:zgz) from rfl]
 generalize (!(p.Links.On.get (c:Int)&&p.Links.Gone.get (c:Int))&&decide (0≤p.Links.Base.get (c:Int))&&decide (p.Links.Base.get (c:Int)≤p.Height)&&zw 1 (-1) (p.Links.Told.get (c:Int))&&decide (zd4 (⟨p.Links.Said.get (c:Int),p.Links.Due.get (c:Int),p.Links.Got.get (c:Int),p.Links.Closed.get (c:Int)⟩:zgz)))=b
 cases b with
 | false=>rw[Tr.rt (show (!false)=true from rfl),Tr.rl];rfl
 | true =>
  rw[Tr.rf (show (!true)=false from rfl)]
  obtain ⟨r,h1,h2⟩:=zahm (L:=p.Links) (c:=(c:Int)) (p:=p) (k:=⟨p.Links.On.get c,p.Links.Gone.get c,p.Links.Base.get c,p.Links.Told.get c,p.Links.Fresh.get c,p.Links.Done.get c,⟨p.Links.Said.get c,p.Links.Due.get c,p.Links.Got.get c,p.Links.Closed.get c⟩,⟨p.Links.SHeight.get c,p.Links.STime.get c,p.Links.SSaid.get c,p.Links.SGot.get c⟩⟩)
   (l:=p.Links.Done.get c) rfl (by omega)
  cases r with
  | inl b=>rw[Tr.ri h1,Tr.rl,h2.1,h2.2];rfl
  | inr x=>rw[Tr.rj h1,Tr.rl,h2.1,h2.2,zv (by omega)];rfl
theorem zii {p:za} (hf:FitPr 140737488351232 p):zbb p=some (zag p):=by
 have hs:=hf.set
 have hq:=hf.queue
 have loop:zh0 p.Links 0 p=some (if z8i p 0=true then (if z8i p 1=true then .inr p else .inl false) else .inl false):=by
  rw[zh0]
  have t0:=z8j hf (c:=0) (by omega)
  have t1:=z8j hf (c:=1) (by omega)
  simp only[Int.ofNat_zero,Nat.zero_add,Int.ofNat_one] at t0 t1
  by_cases h0:z8i p 0=true
  ·rw[if_pos h0] at t0 ⊢
   rw[zcj (s':=(p.Links,((1:Nat):Int),p)) t0]
   by_cases h1:z8i p 1=true
   ·rw[if_pos h1] at t1 ⊢
    rw[zcj (s':=(p.Links,((2:Nat):Int),p)) t1,zew (r:=.inr p) (by
     show (zcp p.Links 2 p).run=_
     simp only[zcp]
     rw[Tr.rf (by simp),Tr.rl])]
   ·rw[if_neg h1] at t1 ⊢
    rw[zew (r:=.inl false) t1]
  ·rw[if_neg h0] at t0 ⊢
   rw[zew (r:=.inl false) t0]
 rw[zbb,znk,Tr.rb (ztd p.Stake),Tr.rg (fun _=>⟨by rw[ztu (by omega)];rfl,trivial⟩),ztu (by omega)]
 simp only[yy2]
 have e:((((((!decide (GoodS p.Stake))||(decide (p.Height < 0)))||(decide (p.Height≥1099511627776)))||(decide (p.Time < 0)))||(decide (p.Time > 1099511627776)))||(!zw 1 (-1) p.Set)) = !(decide (GoodS p.Stake)&&decide (zy1 p)&&zw 1 (-1) p.Set):=by
  rw[Bool.eq_iff_iff]
  simp only[Bool.or_eq_true,Bool.not_eq_true',yy8,decide_eq_true_eq,Bool.and_eq_false_iff]
  unfold zy1
  constructor
  ·rintro (((((h | h) | h) | h) | h) | h)
   ·exact .inl (.inl h)
   ·exact .inl (.inr (by omega))
   ·exact .inl (.inr (by omega))
   ·exact .inl (.inr (by omega))
   ·exact .inl (.inr (by omega))
   ·exact .inr h
  ·rintro ((h | h) | h)
   ·exact .inl (.inl (.inl (.inl (.inl h))))
   ·rcases (show p.Height < 0∨p.Height≥1099511627776∨p.Time < 0∨p.Time > 1099511627776 by omega) with k | k | k | k
    ·exact .inl (.inl (.inl (.inl (.inr k))))
    ·exact .inl (.inl (.inl (.inr k)))
    ·exact .inl (.inl (.inr k))
    ·exact .inl (.inr k)
   ·exact .inr h
 rw[e]
 unfold zag
 generalize (decide (GoodS p.Stake)&&decide (zy1 p)&&zw 1 (-1) p.Set)=b
 cases b with
 | false=>rw[Tr.rt (show (!false)=true from rfl),Tr.rl];rfl
 | true =>
  rw[Tr.rf (show (!true)=false from rfl)]
  by_cases h0:z8i p 0=true
  ·rw[if_pos h0] at loop
   by_cases h1:z8i p 1=true
   ·rw[if_pos h1] at loop
    rw[Tr.rj loop,Tr.rb (zapj (by omega) hf.ps),Tr.rl,h0,h1]
    simp
   ·rw[if_neg h1] at loop
    rw[Tr.ri loop,Tr.rl,h0,Bool.eq_false_iff.2 h1]
    rfl
  ·rw[if_neg h0] at loop
   rw[Tr.ri loop,Tr.rl,Bool.eq_false_iff.2 h0]
   rfl
structure za0a (p:za):Prop where
 waits:p.Stake.Waits.length≤9223372036854775807
 set:p.Set.length≤9223372036854775807
 told:∀ c,(p.Links.Told.get c).length≤9223372036854775807
 done:∀ c,(p.Links.Done.get c).length≤9223372036854775807
 said:∀ c,(p.Links.Said.get c).length≤9223372036854775807
 due:∀ c,(p.Links.Due.get c).length≤9223372036854775807
 queue:p.Queue.length≤9223372036854775807
 ps:∀ a,a∈p.Queue→a.P.Set.length≤9223372036854775807∧a.P.Done.length≤9223372036854775807
theorem FitPr.len {R:Nat} {p:za} (h:FitPr R p) (hR:R≤9223372036854775807):za0a p :=
 ⟨by have:=h.waits;omega,by have:=h.set;omega,fun c=>by have:=h.told c;omega,fun c=>by have:=h.done c;omega,fun c=>by have:=h.said c;omega,fun c=>by have:=h.due c;omega,by have:=h.queue;omega,
  fun a ha=>by have:=h.ps a ha;omega⟩
theorem zxj {α:Type} {t e:Tr α}:(Tr.ite (!true) t e).run=e.run:=Tr.rf (show (!true)=false from rfl)
theorem zxk {α:Type} {t e:Tr α}:(Tr.ite (!false) t e).run=t.run:=Tr.rt (show (!false)=true from rfl)
def newM (x t:Int):Meter:=⟨if x < 5 then 1 else x / 5,i64.wrap (t+10)⟩
def z8k (m:Meter) (x t:Int):Meter:=if m.Next≤t then newM x t else m
def z6f (m:Meter) (n:Int):Meter×Bool:=if m.Left≤0 then (m,false) else (⟨i64.wrap (m.Left - n),m.Next⟩,true)
theorem zahn {x t:Int} (hx:i6 x):zof x t=some (newM x t):=by
 have h:ziv x=some (if x < 5 then 1 else x / 5):=by
  rw[ziv,zjy,Tr.rg (by decide),Tr.rl]
  unfold i6 at hx
  by_cases h5:x < 5
  ·have:Int.tdiv x 5 < 1:=by
    by_cases h0:0≤x
    ·rw[Int.tdiv_eq_ediv_of_nonneg h0];omega
    ·have:Int.tdiv x 5≤0:=by
      have h1:Int.tdiv (-x) 5 = - Int.tdiv x 5:=Int.neg_tdiv x 5
      rw[Int.tdiv_eq_ediv_of_nonneg (by omega)] at h1
      omega
     omega
   have hl : -9223372036854775808≤Int.tdiv x 5:=by
    by_cases h0:0≤x
    ·rw[Int.tdiv_eq_ediv_of_nonneg h0];omega
    ·have h1:Int.tdiv (-x) 5 = - Int.tdiv x 5:=Int.neg_tdiv x 5
     rw[Int.tdiv_eq_ediv_of_nonneg (by omega)] at h1
     omega
   rw[zj (by omega) (by omega),if_neg (by omega),if_pos h5]
  ·rw[Int.tdiv_eq_ediv_of_nonneg (by omega),zj (by omega) (by omega),if_neg h5]
   split
   ·rfl
   ·congr 1;omega
 rw[zof,zvi,Tr.rb h,Tr.rl];rfl
theorem zact {m:Meter} {x t:Int} (hx:i6 x):zmj m x t=some (z8k m x t):=by
 rw[zmj,zsk]
 unfold z8k
 by_cases h:m.Next≤t
 ·rw[Tr.rt (by simpa using h),Tr.rb (zahn hx),Tr.rl,if_pos h]
 ·rw[Tr.rf (by simpa using h),Tr.rl,if_neg h]
theorem zacu {m:Meter} {n:Int}:zgo m n=some (z6f m n):=by
 rw[zgo,zsl]
 unfold z6f
 by_cases h:m.Left≤0
 ·rw[Tr.rt (by simpa using h),Tr.rl,if_pos h]
 ·rw[Tr.rf (by simpa using h),Tr.rl,if_neg h]
def z8l:za:=⟨0,0,newS,[],default,newM 0 0,[]⟩
theorem zaeh:zni=some z8l:=by
 rw[zni,zpb,Tr.rb zaar,Tr.rb (zahn (by unfold i6;omega)),Tr.rl];rfl
def zcu (p:za) (d v n:Int):za×Int :=
 if zag p=true then (if (za9 p.Stake d v n).2≠0 then (p,(za9 p.Stake d v n).2) else ({ p with Stake:=(za9 p.Stake d v n).1 },0)) else (p,2)
theorem z10 {p:za} (hf:FitPr 140737488351232 p) {d v n:Int} (hn:n≤9223372036854775807):zg2 p d v n=some (zcu p d v n):=by
 rw[zg2,zh1,Tr.rb (zii hf)]
 unfold zcu
 by_cases hg:zag p=true
 ·rw[hg,zxj,if_pos rfl,Tr.rb (zaal hn)]
  by_cases h0:(za9 p.Stake d v n).2≠0
  ·rw[Tr.rt (by simpa using h0),Tr.rl,if_pos h0]
  ·rw[Tr.rf (by simpa using h0),Tr.rl,if_neg h0]
 ·rw[Bool.eq_false_iff.2 hg,zxk,Tr.rl];rfl
def zzn (p:za) (now:Int):Wait:=⟨0,0,0,0,p.Height+1,now+20,if p.Links.On.x0=true then p.Height+1 else 0,if p.Links.On.x1=true then p.Height+1 else 0⟩
def z8m (L:Links):Links:={ L with Fresh:=⟨L.Fresh.x0||L.On.x0,L.Fresh.x1||L.On.x1⟩ }
def zcl (p:za) (d v k now:Int):za×Int :=
 if zag p=true∧0≤now∧now≤1099511627776 then
  (if (za1 p.Stake d v k (zzn p now)).2≠0 then (p,(za1 p.Stake d v k (zzn p now)).2) else ({ p with Stake:=(za1 p.Stake d v k (zzn p now)).1,Links:=z8m p.Links },0))
 else (p,2)
theorem zij {p:za} (h:zag p=true):GoodS p.Stake∧zy1 p∧zw 1 (-1) p.Set=true∧z8i p 0=true∧z8i p 1=true∧p.Queue.all (zt7 p)=true:=by
 unfold zag at h
 simp only[yy7,decide_eq_true_eq] at h
 exact ⟨h.1.1.1.1.1,h.1.1.1.1.2,h.1.1.1.2,h.1.1.2,h.1.2,h.2⟩
theorem z37 {p:za} {now:Int}:(((!zag p)||(decide (now < 0)))||(decide (now > 1099511627776))) = !decide (zag p=true∧0≤now∧now≤1099511627776):=by
 rw[Bool.eq_iff_iff]
 simp only[Bool.or_eq_true,Bool.not_eq_true',decide_eq_true_eq,yy8]
 cases zag p<;>simp<;>omega
theorem zyg {p:za} (hf:FitPr 140737488351232 p) {d v k now:Int} (hk:k≤9223372036854775807):za4 p d v k now=some (zcl p d v k now):=by
 rw[za4,zgc,Tr.rb (zii hf)]
 unfold zcl
 by_cases hg:zag p=true∧0≤now∧now≤1099511627776
 ·rw[if_pos hg]
  obtain ⟨g1,g2,-⟩:=zij hg.1
  unfold zy1 at g2
  have turn:∀ (c:Nat),c < 2→∀ (q:za) (w:Wait),(zat d v k c p q w).run=some (.inl (d,v,k,((c+1:Nat):Int),p,q,if p.Links.On.get c=true then { w with h0:=if (c:Int)=0 then p.Height+1 else w.h0,h1:=if (c:Int)=1 then p.Height+1 else w.h1 } else w)):=by
   intro c hc q w
   simp only[zat]
   rw[Tr.rt (by simp;omega),Tr.rg ⟨by omega,by omega⟩]
   by_cases ho:p.Links.On.get c=true
   ·rw[Tr.rt ho,Tr.rg ⟨by omega,by omega⟩,Tr.rl,zv (by omega),if_pos ho,zj (by omega) (by omega)]
   ·rw[Tr.rf (Bool.eq_false_iff.2 ho),Tr.rl,zv (by omega),if_neg ho]
  have hw:zea d v k 0 p default ⟨0,0,0,0,p.Height+1,now+20,0,0⟩=some (d,v,k,p,default,zzn p now):=by
   rw[zea,zcj (s':=(d,v,k,((1:Nat):Int),p,_,_)) (turn 0 (by omega) _ _),zcj (s':=(d,v,k,((2:Nat):Int),p,_,_)) (turn 1 (by omega) _ _),zew (by
    show (zat d v k 2 p _ _).run=_
    simp only[zat]
    rw[Tr.rf (by simp),Tr.rl])]
   have e0:p.Links.On.get ((0:Nat):Int)=p.Links.On.x0:=rfl
   have e1:p.Links.On.get ((1:Nat):Int)=p.Links.On.x1:=rfl
   rw[e0,e1]
   unfold zzn
   cases p.Links.On.x0<;>cases p.Links.On.x1<;>rfl
  rw[Tr.rf (by rw[z37,decide_eq_true hg];rfl),zj (x:=p.Height+1) (by omega) (by omega),zj (x:=now+20) (by omega) (by omega),Tr.rb hw]
  simp only[]
  rw[Tr.rb (z56 hk)]
  by_cases h0:(za1 p.Stake d v k (zzn p now)).2≠0
  ·rw[Tr.rt (by simpa using h0),Tr.rl,if_pos h0]
  ·rw[Tr.rf (by simpa using h0),if_neg h0]
   have turn2:∀ (c:Nat),c < 2→∀ (p q:za),(zau c p q).run=some (.inl (((c+1:Nat):Int),{ p with Links:={ p.Links with Fresh:=p.Links.Fresh.set c (p.Links.Fresh.get c||p.Links.On.get c) } },q)):=by
    intro c hc p q
    simp only[zau]
    rw[Tr.rt (by simp;omega),Tr.rg ⟨by omega,by omega⟩,Tr.rg (fun _=>⟨⟨by omega,by omega⟩,trivial⟩),Tr.rg ⟨by omega,by omega⟩,Tr.rl,zv (by omega)]
   rw[Tr.rb (v:=({ p with Stake:=(za1 p.Stake d v k (zzn p now)).1,Links:=z8m p.Links },default)) (by
    rw[zhl,zcj (s':=(((1:Nat):Int),_,_)) (turn2 0 (by omega) _ _),zcj (s':=(((2:Nat):Int),_,_)) (turn2 1 (by omega) _ _),zew (by
     show (zau 2 _ _).run=_
     simp only[zau]
     rw[Tr.rf (by simp),Tr.rl])]
    rfl),Tr.rl]
 ·rw[if_neg hg,Tr.rt (by rw[z37,decide_eq_false hg];rfl),Tr.rl]
theorem zxl:∀ {l:List Int} {p:Int},zal p l=true→(∀ q,q∈l→p < q∧q≤5)∧l.Pairwise (· < ·)
 | [],p,h=>⟨by simp,.nil⟩
 | q::l,p,h=>by
  simp only[zal,yy7,decide_eq_true_eq] at h
  obtain ⟨h1,h2⟩:=zxl h.2
  refine ⟨fun x hx=>?_,List.pairwise_cons.2 ⟨fun x hx=>(h1 x hx).1,h2⟩⟩
  rcases List.mem_cons.1 hx with rfl | hx
  ·exact h.1
  ·have:=h1 x hx;omega
theorem z8n:∀ {l:List Int} {p:Int},(∀ q,q∈l→p < q∧q≤5)→l.Pairwise (· < ·)→zal p l=true
 | [],p,_,_=>rfl
 | q::l,p,h1,h2=>by
  have hq:=h1 q (List.mem_cons_self ..)
  rw[List.pairwise_cons] at h2
  simp only[zal,yy7,decide_eq_true_eq]
  exact ⟨hq,z8n (fun x hx=>⟨h2.1 x hx,(h1 x (List.mem_cons_of_mem _ hx)).2⟩) h2.2⟩
theorem zaaz:∀ {l m:List Int},l.Pairwise (· < ·)→m.Pairwise (· < ·)→(∀ p,p∈l↔p∈m)→l=m
 | [],[],_,_,_=>rfl
 | [],b::m,_,_,h=>by have:=(h b).2 (List.mem_cons_self ..);cases this
 | a::l,[],_,_,h=>by have:=(h a).1 (List.mem_cons_self ..);cases this
 | a::l,b::m,hl,hm,h=>by
  rw[List.pairwise_cons] at hl hm
  have hab:a=b:=by
   rcases List.mem_cons.1 ((h a).1 (List.mem_cons_self ..)) with h1 | h1
   ·exact h1
   ·rcases List.mem_cons.1 ((h b).2 (List.mem_cons_self ..)) with h2 | h2
    ·exact h2.symm
    ·have k1:=hm.1 a h1
     have k2:=hl.1 b h2
     omega
  subst hab
  congr 1
  refine zaaz hl.2 hm.2 fun p=>⟨fun hp=>?_,fun hp=>?_⟩
  ·rcases List.mem_cons.1 ((h p).1 (List.mem_cons_of_mem _ hp)) with h1 | h1
   ·have:=hl.1 p hp;omega
   ·exact h1
  ·rcases List.mem_cons.1 ((h p).2 (List.mem_cons_of_mem _ hp)) with h1 | h1
   ·have:=hm.1 p hp;omega
   ·exact h1
theorem zapk (a b:Int):znq a b=some (decide (a < b)):=by
 have h:∀ x,zfl x=some false:=fun x=>by rw[zfl,znp,Tr.rl];simp
 rw[znq,zpd,Tr.rb (h a),Tr.rg (fun e=>by cases e),Tr.rl]
 simp
theorem zacv (x:Int):zbe x=some false:=by rw[zbe,zjb,Tr.rl];simp
theorem zaa0 {l:List Int} (h:l.Pairwise (· < ·)) {x y:Nat} (hxy:x < y) (hy:y < l.length):l.getD x 0 < l.getD y 0:=by
 have:=List.pairwise_iff_getElem.1 h x y (by omega) hy hxy
 rw[yy0,yy0,yy3 hy,yy3 (show x < l.length by omega)]
 exact this
def z8o (l:List Int) (v k:Int):Prop:=0≤k∧k≤l.length∧(∀ x:Nat,(x:Int) < k→l.getD x 0 < v)∧(∀ x:Nat,k≤x→x < l.length→v≤l.getD x 0)
theorem zaho {l:List Int} (hs:l.Pairwise (· < ·)) (hl:l.length≤1000) (v:Int) :
  ∃ k,zfm l v l.length 0 l.length=some (l,v,(l.length:Int),k)∧z8o l v k:=by
 have:=zqs (F:=fun s:(List Int)×Int×Int×Int×Int=>(zbg s.1 s.2.1 s.2.2.1 s.2.2.2.1 s.2.2.2.2).run)
  (fun s=>s.1=l∧s.2.1=v∧s.2.2.1=l.length∧(0≤s.2.2.2.1∧s.2.2.2.1≤s.2.2.2.2∧s.2.2.2.2≤l.length)∧(∀ x:Nat,(x:Int) < s.2.2.2.1→l.getD x 0 < v)∧(∀ x:Nat,s.2.2.2.2≤x→x < l.length→v≤l.getD x 0))
  (fun s=>(s.2.2.2.2 - s.2.2.2.1).toNat) (fun s r=>∃ k,r=(l,v,(l.length:Int),k)∧z8o l v k) ?_ (l,v,(l.length:Int),0,(l.length:Int)) ⟨rfl,rfl,rfl,⟨by simp,by simp,by simp⟩,by intro x hx;simp only[] at hx;omega,by intro x hx h2;simp only[] at hx;omega⟩
 ·obtain ⟨r,h1,k,rfl,h3⟩:=this
  exact ⟨k,h1,h3⟩
 ·rintro ⟨x0,x1,x2,i,j⟩ ⟨h1,h2,h3,⟨h4,h5,h6⟩,h7,h8⟩
  simp only at h1 h2 h3 h4 h5 h6 h7 h8
  rw[h1,h2,h3] at *
  simp only[zbg]
  by_cases hc:i < j
  ·have hm:i64.wrap (Int.fdiv (u64.wrap (i64.wrap (i+j))) (2 ^ 1))=(i+j) / 2:=by
    rw[zj (x:=i+j) (by omega) (by omega),zagm (by omega) (by omega),Int.fdiv_eq_ediv_of_nonneg _ (by decide),zj (by omega) (by omega)]
    rfl
   rw[hm]
   generalize hmm:(i+j) / 2=m
   have m1:i≤m:=by omega
   have m2:m < j:=by omega
   rw[Tr.rt (by simpa using hc),Tr.rg (by decide),Tr.rg ⟨by omega,by show m < (l.length:Nat);omega⟩,Tr.rb (zapk _ _)]
   by_cases hlt:l.getD m.toNat 0 < v
   ·refine .inl ⟨(l,v,(l.length:Int),m+1,j),by rw[Tr.rt (by simpa using hlt),Tr.rl,zj (by omega) (by omega)],⟨rfl,rfl,rfl,⟨by simp only[];omega,by simp only[];omega,by simp only[];omega⟩,?_,h8⟩,by simp only[];omega,fun r hr=>hr⟩
    intro x hx
    simp only[] at hx
    by_cases hxm:x=m.toNat
    ·rw[hxm];exact hlt
    ·have:=zaa0 hs (x:=x) (y:=m.toNat) (by omega) (by omega)
     omega
   ·refine .inl ⟨(l,v,(l.length:Int),i,m),by rw[Tr.rf (by simpa using hlt),Tr.rl],⟨rfl,rfl,rfl,⟨by simp only[];omega,by simp only[];omega,by simp only[];omega⟩,h7,?_⟩,by simp only[];omega,fun r hr=>hr⟩
    intro x hx hx2
    simp only[] at hx
    by_cases hxm:x=m.toNat
    ·rw[hxm];omega
    ·have:=zaa0 hs (x:=m.toNat) (y:=x) (by omega) hx2
     omega
  ·refine .inr ⟨(l,v,(l.length:Int),i),by rw[Tr.rf (by simpa using hc),Tr.rl],i,rfl,h4,by omega,h7,fun x hx=>h8 x (by omega)⟩
theorem zahp {l:List Int} (hs:l.Pairwise (· < ·)) (hl:l.length≤1000) (v:Int):∃ k,zp l v=some (k,decide (v∈l))∧z8o l v k:=by
 obtain ⟨k,h1,h2⟩:=zaho hs hl v
 refine ⟨k,?_,h2⟩
 obtain ⟨k0,k1,k2,k3⟩:=h2
 have hin:decide (k < (l.length:Int))=true→(0:Int)≤k∧k < ((Sl.len (.ints l):Nat):Int):=fun h=>⟨k0,by simpa[Sl.len] using h⟩
 rw[zp,zeb,Tr.rb h1]
 simp only[]
 rw[Tr.rg (fun h=>⟨hin h,trivial⟩),Tr.rg (fun _ h=>⟨hin h,trivial⟩),Tr.rg (fun _ _=>⟨by rw[zacv];rfl,trivial⟩),Tr.rg (fun _ _ _=>⟨by rw[zacv];rfl,trivial⟩),Tr.rl,zacv,zacv]
 simp only[yy2,Bool.and_false,Bool.or_false]
 congr 2
 rw[Bool.eq_iff_iff]
 simp only[yy7,decide_eq_true_eq,beq_iff_eq]
 constructor
 ·rintro ⟨hk,he⟩
  rw[← he]
  exact zdg (by omega) 0
 ·intro hv
  obtain ⟨x,hx,he⟩:=List.getElem_of_mem hv
  have hg:l.getD x 0=v:=by rw[yy0,yy3 hx];exact he
  have hkx:k≤x:=by
   rcases Int.lt_or_le (x:Int) k with h | h
   ·have:=k2 x h;omega
   ·exact h
  refine ⟨by omega,?_⟩
  have h3:=k3 k.toNat (by omega) (by omega)
  by_cases hxk:x=k.toNat
  ·rw[← hxk];exact hg
  ·have:=zaa0 hs (x:=k.toNat) (y:=x) (by omega) hx
   omega
def insD (l:List Int) (v:Int):List Int:=((List.range 6).map (fun (u:Nat)=>(u:Int))).filter (fun u=>u==v||decide (u∈l))
theorem range_pw:((List.range 6).map (fun (u:Nat)=>(u:Int))).Pairwise (· < ·):=by decide
theorem zaa1 (l:List Int) (v:Int):(insD l v).Pairwise (· < ·):=range_pw.sublist List.filter_sublist
theorem zaei {u:Int}:u∈(List.range 6).map (fun (u:Nat)=>(u:Int))↔0≤u∧u≤5:=by
 rw[List.mem_map]
 constructor
 ·rintro ⟨x,hx,rfl⟩;rw[List.mem_range] at hx;omega
 ·intro h;exact ⟨u.toNat,by rw[List.mem_range];omega,by omega⟩
theorem mem_insD {l:List Int} {v u:Int}:u∈insD l v↔(0≤u∧u≤5)∧(u=v∨u∈l):=by
 unfold insD;rw[List.mem_filter,zaei];simp
theorem zahr (l:List Int) (v:Int):zal (-1) (insD l v)=true:=z8n (fun q hq=>by have:=(mem_insD.1 hq).1;omega) (zaa1 l v)
theorem zapl {l:List Int} {v:Int} (h:zal (-1) l=true) (hv:v∈l):insD l v=l:=by
 obtain ⟨h1,h2⟩:=zxl h
 refine zaaz (zaa1 l v) h2 fun u=>?_
 rw[mem_insD]
 constructor
 ·rintro ⟨_,rfl | h⟩<;>assumption
 ·intro hu;have:=h1 u hu;exact ⟨by omega,.inr hu⟩
theorem zak0 {l:List Int} {v k:Int} (h:zal (-1) l=true) (hv:v∉l) (hv5:0≤v∧v≤5) (hk:z8o l v k):l.take k.toNat++[v]++l.drop k.toNat=insD l v:=by
 obtain ⟨h1,h2⟩:=zxl h
 obtain ⟨k0,k1,k2,k3⟩:=hk
 have htake:∀ x,x∈l.take k.toNat→x < v:=by
  intro x hx
  obtain ⟨i,hi,rfl⟩:=List.getElem_of_mem hx
  rw[List.length_take] at hi
  have:=k2 i (by omega)
  rw[yy0,yy3 (by omega)] at this
  rw[List.getElem_take];exact this
 have hdrop:∀ x,x∈l.drop k.toNat→v < x:=by
  intro x hx
  have hm:x∈l:=List.mem_of_mem_drop hx
  obtain ⟨i,hi,rfl⟩:=List.getElem_of_mem hx
  rw[List.length_drop] at hi
  have:=k3 (k.toNat+i) (by omega) (by omega)
  rw[yy0,yy3 (by omega)] at this
  rw[List.getElem_drop] at hm ⊢
  have hne:l[k.toNat+i]≠v:=fun e=>hv (e ▸ hm)
  have h3:v≤l[k.toNat+i]:=this
  omega
 refine zaaz ?_ (zaa1 l v) fun u=>?_
 ·rw[List.append_assoc,List.pairwise_append]
  refine ⟨h2.sublist (List.take_sublist _ _),?_,?_⟩
  ·rw[List.singleton_append,List.pairwise_cons]
   exact ⟨hdrop,h2.sublist (List.drop_sublist _ _)⟩
  ·intro a ha b hb
   rw[List.singleton_append] at hb
   rcases List.mem_cons.1 hb with rfl | hb
   ·exact htake a ha
   ·have:=htake a ha;have:=hdrop b hb;omega
 ·rw[mem_insD,List.append_assoc,List.mem_append,List.singleton_append,List.mem_cons]
  constructor
  ·rintro (hu | rfl | hu)
   ·have hm:=List.mem_of_mem_take hu
    have:=h1 u hm
    exact ⟨by omega,.inr hm⟩
   ·exact ⟨hv5,.inl rfl⟩
   ·have hm:=List.mem_of_mem_drop hu
    have:=h1 u hm
    exact ⟨by omega,.inr hm⟩
  ·rintro ⟨_,rfl | hu⟩
   ·exact .inr (.inl rfl)
   ·rw[← List.take_append_drop k.toNat l,List.mem_append] at hu
    exact hu.imp id .inr
def zvz (p:za) (v:Int):Int:=if (i64.wrap (Int.tdiv (p.Stake.Validators.Tokens.get v) 100)) > 1 then (i64.wrap (Int.tdiv (p.Stake.Validators.Tokens.get v) 100)) else 1
def zahs (p:za) (c v:Int):za:={ p with Links:={ p.Links with Done:=p.Links.Done.set c (insD (p.Links.Done.get c) v) } }
def zapm (p:za) (a:Asked):Int:=if (p.Links.Base.get a.C) > a.P.Id then (p.Links.Base.get a.C) else a.P.Id
def ztg (p:za) (a:Asked):za×Bool :=
 if a.P.Kind=2 then ({ p with Stake:=zmo p.Stake a.C a.P.Id },true)
 else if a.P.Kind=4 then (if p.Stake.Validators.Dead.get a.P.V=true then (p,true) else ({ p with Stake:=(zbf (zex p.Stake a.P.V (zapm p a) 50).1 a.P.V 2).1 },true))
 else if p.Stake.Validators.Jailed.get a.P.V=true then (zahs p a.C a.P.V,true)
 else if (z6f p.Meter (zvz p a.P.V)).2=true then (zahs { p with Stake:=(zbf p.Stake a.P.V 0).1,Meter:=(z6f p.Meter (zvz p a.P.V)).1 } a.C a.P.V,true)
 else (p,false)
structure zaht (p:za) (a:Asked):Prop where
 v:0≤a.P.V∧a.P.V≤5
 c:0≤a.C∧a.C < 2
 k:a.P.Kind=2∨a.P.Kind=3∨a.P.Kind=4
 w:p.Stake.Waits.length*64≤140737488351232
 d:zal (-1) (p.Links.Done.get a.C)=true
theorem zn1 {α:Type} (a:A2 α) {c:Int} (hc:0≤c∧c < 2):a.set c (a.get c)=a:=by
 rcases (show c=0∨c=1 by omega) with rfl | rfl<;>rfl
theorem zz2 {l:List Int} (h:zal (-1) l=true):l.length≤6:=by
 have:=zto h (by omega);omega
theorem zahu {p:za} {a:Asked} (hf:zaht p a) (hv:a.P.V∈p.Links.Done.get a.C):zahs p a.C a.P.V=p:=by
 unfold zahs
 rw[zapl hf.d hv,zn1 _ hf.c]
theorem zahv {l:List Int} {k v:Int} (hl:l.length≤6) (hk:z8o l v k):zbr l k [v]=some (l.take k.toNat++[v]++l.drop k.toNat):=by
 unfold zbr insP
 rw[if_pos ⟨hk.1,hk.2.1,by simp,by simp;omega⟩]
theorem zapn {p:za} {a:Asked} (hf:zaht p a):zls a p=some ((ztg p a).2,(ztg p a).1):=by
 obtain ⟨hv,hc,hk,hw,hd⟩:=hf
 have hl:=zz2 hd
 obtain ⟨pk,hs,hpl⟩:=zahp (zxl hd).2 (by omega) a.P.V
 have hcl:=z7z (l:=p.Links.Done.get a.C) (by omega)
 have hin:=zahv hl hpl
 have hmem:(!decide (a.P.V∈p.Links.Done.get a.C))=true→(p.Links.Done.get a.C).take pk.toNat++[a.P.V]++(p.Links.Done.get a.C).drop pk.toNat=insD (p.Links.Done.get a.C) a.P.V:=by
  intro h
  exact zak0 hd (by simpa using h) hv hpl
 rw[zls,znr,Tr.rg ⟨by omega,by omega⟩,Tr.rg hc]
 unfold ztg
 by_cases k2:a.P.Kind=2
 ·rw[Tr.rt (by simpa using k2),Tr.rg (by rw[zyd hw];rfl),Tr.rl,zyd hw,if_pos k2];rfl
 ·rw[Tr.rf (by simpa using k2),if_neg k2]
  by_cases k4:a.P.Kind=4
  ·rw[if_pos k4,Tr.rf (by rw[k4];decide),Tr.rt (by simpa using k4)]
   by_cases hdd:p.Stake.Validators.Dead.get a.P.V=true
   ·rw[if_pos hdd,hdd,zxj,Tr.rl]
   ·rw[if_neg hdd,Bool.eq_false_iff.2 hdd,zxk,Tr.rg (by rw[z6b];rfl),z6b]
    simp only[yy2]
    rw[Tr.rg (by rw[zaan];rfl),Tr.rl,zaan];rfl
  ·have k3:a.P.Kind=3:=by omega
   rw[if_neg k4,Tr.rt (by simpa using k3)]
   by_cases hj:p.Stake.Validators.Jailed.get a.P.V=true
   ·rw[if_pos hj,hj,zxj,Tr.rg (by rw[hs];rfl),hs]
    simp only[yy2]
    by_cases hm:a.P.V∈p.Links.Done.get a.C
    ·rw[decide_eq_true hm,zxj,Tr.rl,zahu ⟨hv,hc,hk,hw,hd⟩ hm]
    ·rw[decide_eq_false hm,zxk,Tr.rg (by rw[hcl];rfl),hcl]
     simp only[yy2]
     rw[Tr.rg (by rw[hin];rfl),Tr.rl,hin,yy2,hmem (by simpa using hm)]
     rfl
   ·rw[if_neg hj,Bool.eq_false_iff.2 hj,zxk,Tr.rg (by decide),Tr.rg (by rw[zacu];rfl),zacu]
    simp only[yy2]
    rw[show (if (i64.wrap (Int.tdiv (p.Stake.Validators.Tokens.get a.P.V) 100)) > 1 then (i64.wrap (Int.tdiv (p.Stake.Validators.Tokens.get a.P.V) 100)) else 1)=zvz p a.P.V from rfl]
    by_cases ht:(z6f p.Meter (zvz p a.P.V)).2=true
    ·rw[if_pos ht,ht,zxj,Tr.rg (by rw[zag5];rfl),Tr.rg (by rw[hs];rfl),hs,zag5]
     simp only[yy2]
     by_cases hm:a.P.V∈p.Links.Done.get a.C
     ·rw[decide_eq_true hm,zxj,Tr.rl]
      have:=zahu (p:={ p with Stake:=(zbf p.Stake a.P.V 0).1,Meter:=(z6f p.Meter (zvz p a.P.V)).1 }) (a:=a) ⟨hv,hc,hk,by show (zbf p.Stake a.P.V 0).1.Waits.length*64≤_;rw[z8c];exact hw,hd⟩ hm
      rw[this]
     ·rw[decide_eq_false hm,zxk,Tr.rg (by rw[hcl];rfl),hcl]
      simp only[yy2]
      rw[Tr.rg (by rw[hin];rfl),Tr.rl,hin,yy2,hmem (by simpa using hm)]
      rfl
    ·rw[if_neg ht,Bool.eq_false_iff.2 ht,zxk,Tr.rl]
def upP (p:za) (S:Stake) (D:A2 (List Int)) (M:Meter):za:={ p with Stake:=S,Links:={ p.Links with Done:=D },Meter:=M }
def DealI (p0 p:za):Prop:=∃ S D M,p=upP p0 S D M∧GoodS S∧zal (-1) D.x0=true∧zal (-1) D.x1=true
theorem DealI.get {p0 p:za} (h:DealI p0 p) {c:Int}:zal (-1) (p.Links.Done.get c)=true:=by
 obtain ⟨S,D,M,rfl,_,h0,h1⟩:=h
 show zal (-1) (D.get c)=true
 unfold A2.get;split<;>assumption
theorem DealI.good {p0 p:za} (h:DealI p0 p):GoodS p.Stake:=by obtain ⟨S,D,M,rfl,h,_⟩:=h;exact h
theorem zahw {p0:za} {S:Stake} {D:A2 (List Int)} {M:Meter} {c v:Int} (h0:zal (-1) D.x0=true) (h1:zal (-1) D.x1=true):∃ D',zahs (upP p0 S D M) c v=upP p0 S D' M∧zal (-1) D'.x0=true∧zal (-1) D'.x1=true:=by
 refine ⟨D.set c (insD (D.get c) v),rfl,?_,?_⟩
 ·show zal (-1) (if c=0 then insD (D.get c) v else D.x0)=true
  split
  ·exact zahr _ _
  ·exact h0
 ·show zal (-1) (if c=1 then insD (D.get c) v else D.x1)=true
  split
  ·exact zahr _ _
  ·exact h1
theorem zth {s:Stake} (hg:GoodS s) (v h f:Int):GoodS (zex s v h f).1:=(zaec hg v h f).1
theorem zro {s:Stake} (hg:GoodS s) (v:Int) {what:Int} (hw:what=0∨what=1∨what=2):GoodS (zbf s v what).1:=(zaeb hg v hw).1
theorem zacw {p0 p:za} (h:DealI p0 p) (a:Asked):DealI p0 (ztg p a).1:=by
 obtain ⟨S,D,M,rfl,hS,h0,h1⟩:=h
 unfold ztg
 split
 ·exact ⟨zmo S a.C a.P.Id,D,M,rfl,zy0 hS,h0,h1⟩
 ·split
  ·split
   ·exact ⟨S,D,M,rfl,hS,h0,h1⟩
   ·exact ⟨_,D,M,rfl,zro (zth hS _ _ _) _ (.inr (.inr rfl)),h0,h1⟩
  ·split
   ·obtain ⟨D',e,k0,k1⟩:=zahw (p0:=p0) (S:=S) (M:=M) (c:=a.C) (v:=a.P.V) h0 h1
    exact ⟨S,D',M,e,hS,k0,k1⟩
   ·split
    ·obtain ⟨D',e,k0,k1⟩:=zahw (p0:=p0) (S:=(zbf S a.P.V 0).1) (M:=(z6f M (zvz (upP p0 S D M) a.P.V)).1) (c:=a.C) (v:=a.P.V) h0 h1
     exact ⟨_,D',_,e,zro hS _ (.inl rfl),k0,k1⟩
    ·exact ⟨S,D,M,rfl,hS,h0,h1⟩
def zgu (t:za×A2 Bool×List Asked) (a:Asked):za×A2 Bool×List Asked :=
 if t.2.1.get a.C=true then (t.1,t.2.1.set a.C true,t.2.2++[a])
 else if (ztg t.1 a).2=true then ((ztg t.1 a).1,t.2.1,t.2.2)
 else ((ztg t.1 a).1,t.2.1.set a.C true,t.2.2++[a])
def zaa2 (p0:za) (i:Nat) (t:za×A2 Bool×List Asked):Prop :=
 DealI p0 t.1∧t.2.2.length≤i∧(∀ c:Int,0≤c∧c < 2→t.2.1.get c=t.2.2.any (fun b=>b.C==c))∧∀ b,b∈t.2.2→b∈p0.Queue
theorem zx {α:Type} (a:A2 α) {i j:Int} (y:α) (hi:0≤i∧i < 2) (hj:0≤j∧j < 2):(a.set i y).get j=if j=i then y else a.get j:=by
 rcases (show i=0∨i=1 by omega) with rfl | rfl<;>rcases (show j=0∨j=1 by omega) with rfl | rfl<;>rfl
theorem zacx {p0:za} {i:Nat} {t:za×A2 Bool×List Asked} (h:zaa2 p0 i t) {a:Asked} (hc:0≤a.C∧a.C < 2) (ha:a∈p0.Queue):zaa2 p0 (i+1) (zgu t a):=by
 obtain ⟨h1,h2,h3,h4⟩:=h
 have more:∀ p,DealI p0 p→zaa2 p0 (i+1) (p,t.2.1.set a.C true,t.2.2++[a]):=by
  intro p hp
  refine ⟨hp,by simp;omega,fun c hcc=>?_,fun b hb=>?_⟩
  ·show (t.2.1.set a.C true).get c=(t.2.2++[a]).any (fun b=>b.C==c)
   rw[zx _ _ hc hcc,List.any_append]
   by_cases e:c=a.C
   ·rw[if_pos e];simp[e]
   ·rw[if_neg e,h3 c hcc];simp[Ne.symm e]
  ·rcases List.mem_append.1 hb with hb | hb
   ·exact h4 b hb
   ·rw[List.mem_singleton.1 hb];exact ha
 unfold zgu
 split
 ·exact more _ h1
 ·split
  ·exact ⟨zacw h1 a,by simp only[];omega,h3,h4⟩
  ·exact more _ (zacw h1 a)
theorem zapo {p0 p:za} (hp:DealI p0 p) {q:za} {a:Asked} (ha:zt7 q a=true):zaht p a:=by
 unfold zt7 at ha
 simp only[yy7,decide_eq_true_eq,beq_iff_eq,Bool.not_eq_true',beq_eq_false_iff_ne] at ha
 obtain ⟨⟨⟨⟨c0,c1⟩,_⟩,hg⟩,hk⟩:=ha
 have hf:=zmu hg
 exact ⟨⟨hf.2.2.2.2.1,hf.2.2.2.2.2.1⟩,⟨c0,c1⟩,by omega,hp.good.fit,hp.get⟩
theorem zak1 {p0:za} {q:za} {now:Int} {d:za} {l:List Asked} {p:za} (hp:DealI p0 p) (hl:l.length*88≤140737488351232) (ha:∀ a,a∈l→zt7 q a=true∧a∈p0.Queue) :
  zf1 now l l.length 0 p d ⟨false,false⟩ []=some (now,(l.foldl zgu (p,⟨false,false⟩,[])).1,d,(l.foldl zgu (p,⟨false,false⟩,[])).2.2):=by
 rw[zf1]
 have:=zjf (F:=fun s:Int×(List Asked)×Int×Int×za×za×(A2 Bool)×(List Asked)=>(zet s.1 s.2.1 s.2.2.1 s.2.2.2.1 s.2.2.2.2.1 s.2.2.2.2.2.1 s.2.2.2.2.2.2.1 s.2.2.2.2.2.2.2).run) l default
  (fun i (t:za×A2 Bool×List Asked)=>(now,l,(l.length:Int),(i:Int),t.1,d,t.2.1,t.2.2)) (zaa2 p0) zgu (fun t=>(now,t.1,d,t.2.2)) (by
   intro t _
   simp only[zet]
   rw[Tr.rf (by simp),Tr.rl]) (by
   intro i t hi hI
   obtain ⟨a1,a2⟩:=ha _ (zdg (l:=l) (k:=i) hi default)
   have hfit:=zapo hI.1 a1
   refine ⟨?_,zacx hI hfit.c a2⟩
   have hlen:=hI.2.1
   simp only[zet,yy4]
   rw[Tr.rt (by simpa using hi),Tr.rg ⟨by omega,by show (i:Int) < (l.length:Nat);omega⟩,Tr.rg hfit.c]
   unfold zgu
   by_cases hw:t.2.1.get (l.getD i default).C=true
   ·rw[if_pos hw,Tr.rt hw,Tr.rt (show true=true from rfl),Tr.rt (show true=true from rfl),Tr.rt (show true=true from rfl)]
    rw[Tr.rg hfit.c,Tr.rg (by show (t.2.2.length+1)*88≤_;omega),Tr.rl,zv (by omega)]
   ·rw[if_neg hw,Tr.rf (Bool.eq_false_iff.2 hw),Tr.rb (zapn hfit)]
    simp only[]
    by_cases hd:(ztg t.1 (l.getD i default)).2=true
    ·rw[if_pos hd,Tr.rf (by rw[hd];rfl),Tr.rl,zv (by omega)]
    ·rw[if_neg hd,Tr.rt (by rw[Bool.eq_false_iff.2 hd];rfl),Tr.rg hfit.c,Tr.rg (by show (t.2.2.length+1)*88≤_;omega),Tr.rl,zv (by omega)]) (p,⟨false,false⟩,[]) ⟨hp,by simp,fun c hc=>by rcases (show c=0∨c=1 by omega) with rfl | rfl<;>rfl,fun b hb=>by cases hb⟩
 exact this
def dOf (p:za) (c:Int):List Power:=zur (fP (p.Links.Told.get c)) (fP p.Set)
def pkOf (p:za) (c:Int):Packet:=⟨1,p.Height,0,0,dOf p c,p.Links.Done.get c⟩
def zn5 (p:za) (c now:Int):zgz×Int:=z5x (zfn p.Links c) (zgi (pkOf p c)).1 (now+40)
def zak2 (p:za) (c now:Int):za :=
 { p with Links:={ p.Links with Told:=p.Links.Told.set c p.Set,Fresh:=p.Links.Fresh.set c false,Done:=p.Links.Done.set c [],Said:=p.Links.Said.set c (zn5 p c now).1.Said,Due:=p.Links.Due.set c (zn5 p c now).1.Due,Got:=p.Links.Got.set c (zn5 p c now).1.Got,Closed:=p.Links.Closed.set c (zn5 p c now).1.Closed } }
def zy2 (p:za) (c:Int):Prop:=p.Links.On.get c=false∨(dOf p c=[]∧p.Links.Done.get c=[]∧p.Links.Fresh.get c=false)
instance (p:za) (c:Int):Decidable (zy2 p c):=by
 have:Decidable (dOf p c=[]):=decidable_of_iff ((dOf p c).length=0) List.length_eq_zero_iff
 have:Decidable (p.Links.Done.get c=[]):=decidable_of_iff ((p.Links.Done.get c).length=0) List.length_eq_zero_iff
 exact inferInstanceAs (Decidable (_∨_))
def zdh (p:za) (c now:Int):za :=
 if zy2 p c then p else if (zgi (pkOf p c)).2≠0 then p else if (zn5 p c now).2≠0 then p else zak2 p c now
structure z6g (p:za) (c:Int):Prop where
 t:(p.Links.Told.get c).length≤9223372036854775807
 s:p.Set.length≤6
 d:(p.Links.Done.get c).length≤6
 u:(p.Links.Due.get c).length≤9223372036854775807
theorem quiet_iff {p:za} {c:Int}:zy2 p c↔p.Links.On.get c=false∨((dOf p c).length=0∧(p.Links.Done.get c).length=0∧p.Links.Fresh.get c=false):=by
 unfold zy2;rw[List.length_eq_zero_iff,List.length_eq_zero_iff]
theorem zv0 {l:List Power} (h:l.length≤6):zaj l=some l:=by
 rw[zaj,zdl]
 refine Tr.run_split (fun h0=>?_) (fun _=>?_) (.inr trivial)
 ·rw[Tr.rl,List.length_eq_zero_iff.1 h0]
 ·rw[Tr.rg (by simp only[zbd,List.length_nil];omega),Tr.rl]
theorem zahx {p:za} {c now:Int} (hf:z6g p c) (hc:0≤c∧c < 2) (hn:0≤now∧now≤1099511627776):zht c now p=some (zdh p c now):=by
 obtain ⟨ft,fs,fd,fu⟩:=hf
 have hdl:(dOf p c).length≤6:=zadz _ _
 have hD:zd0 (p.Links.Told.get c) p.Set=some (dOf p c):=zakm ft (by omega)
 have hE:za5 (⟨1,p.Height,0,0,dOf p c,p.Links.Done.get c⟩:Packet)=some (zgi (pkOf p c)):=z1k (by show (dOf p c).length*16≤_;omega) (by show (p.Links.Done.get c).length*8≤_;omega)
 rw[zht,zno,Tr.rg hc,Tr.rg (by rw[hD];rfl),hD]
 simp only[yy2]
 unfold zdh
 by_cases hq:zy2 p c
 ·rw[if_pos hq,Tr.rt (by
   rw[quiet_iff] at hq
   simp only[Bool.or_eq_true,yy7,Bool.not_eq_true',beq_iff_eq]
   rcases hq with h | ⟨h1,h2,h3⟩
   ·exact .inl h
   ·exact .inr ⟨⟨by omega,h3⟩,by omega⟩),Tr.rl]
 ·rw[if_neg hq,Tr.rf (by
   rw[Bool.eq_false_iff]
   intro h
   simp only[Bool.or_eq_true,yy7,Bool.not_eq_true',beq_iff_eq] at h
   refine hq (quiet_iff.2 ?_)
   rcases h with h | ⟨⟨h1,h2⟩,h3⟩
   ·exact .inl h
   ·exact .inr ⟨by omega,by omega,h2⟩),Tr.rg (by rw[hE];rfl),hE]
  simp only[yy2]
  by_cases he:(zgi (pkOf p c)).2≠0
  ·rw[if_pos he,Tr.rt (by simpa using he),Tr.rl]
  ·rw[if_neg he,Tr.rf (by simpa using he),zj (x:=now+40) (by omega) (by omega),Tr.rb (zame _ _ _)]
   by_cases hs:(zn5 p c now).2≠0
   ·rw[if_pos hs,Tr.rt (by simpa[zn5] using hs),Tr.rl]
   ·rw[if_neg hs,Tr.rf (by simpa[zn5] using hs),Tr.rg (by rw[zv0 fs];rfl),Tr.rl,zv0 fs]
    rfl
def zor (p:za) (now:Int):za:={ p with Height:=p.Height+1,Time:=now,Meter:=z8k p.Meter (allP p.Set) now }
def zc0 (p:za) (now:Int):za×A2 Bool×List Asked:=p.Queue.foldl zgu (zor p now,⟨false,false⟩,[])
def zlw (p:za) (now:Int):za :=
 { (zc0 p now).1 with Stake:=(z3z (zc0 p now).1.Stake now).1,Set:=setS (z3z (zc0 p now).1.Stake now).1,Queue:=(zc0 p now).2.2 }
def zjj (p:za) (now:Int):za×List Int×Int :=
 if zag p=true∧p.Time≤now∧now≤1099511627776 then (zdh (zdh (zlw p now) 0 now) 1 now,(z3z (zc0 p now).1.Stake now).2.1,0) else (p,[],2)
theorem zacy (l:List Power):i6 (allP l):=by
 have:∀ (l:List Power) (t:Int),i6 t→i6 (l.foldl (fun t p=>i64.wrap (t+p.N)) t):=by
  intro l
  induction l with
  | nil=>intro t ht;exact ht
  | cons q l ih=>intro t _;exact ih _ (by show i6 (i64.wrap (t+q.N));rw[IntKind.wrap_i64];unfold i6;omega)
 exact this l 0 (by unfold i6;omega)
theorem z8p {p:za} {now:Int} (hg:zag p=true):DealI (zor p now) (zor p now):=by
 obtain ⟨g1,_,_,k0,k1,_⟩:=zij hg
 unfold z8i at k0 k1
 simp only[yy7] at k0 k1
 exact ⟨p.Stake,p.Links.Done,z8k p.Meter (allP p.Set) now,rfl,g1,k0.2,k1.2⟩
theorem zacz {p0:za}:∀ (l:List Asked) (i:Nat) (t:za×A2 Bool×List Asked),zaa2 p0 i t→(∀ a,a∈l→(0≤a.C∧a.C < 2)∧a∈p0.Queue)→zaa2 p0 (i+l.length) (l.foldl zgu t)
 | [],i,t,h,_=>h
 | a::l,i,t,h,ha=>by
  have:=zacz l (i+1) (zgu t a) (zacx h (ha a (List.mem_cons_self ..)).1 (ha a (List.mem_cons_self ..)).2) (fun b hb=>ha b (List.mem_cons_of_mem _ hb))
  rw[List.foldl_cons,List.length_cons,show i+(l.length+1)=i+1+l.length by omega]
  exact this
theorem z11 {p:za} (hg:zag p=true):∀ a,a∈p.Queue→zt7 p a=true∧(0≤a.C∧a.C < 2):=by
 intro a ha
 have h:=List.all_eq_true.1 (zij hg).2.2.2.2.2 a ha
 refine ⟨h,?_⟩
 unfold zt7 at h
 simp only[yy7,decide_eq_true_eq] at h
 exact h.1.1.1
theorem zxm {p:za} {now:Int} (hg:zag p=true):zaa2 (zor p now) p.Queue.length (zc0 p now):=by
 have:=zacz (p0:=zor p now) p.Queue 0 (zor p now,⟨false,false⟩,[]) ⟨z8p hg,by simp,fun c hc=>by rcases (show c=0∨c=1 by omega) with rfl | rfl<;>rfl,fun b hb=>by cases hb⟩ (fun a ha=>⟨(z11 hg a ha).2,ha⟩)
 rwa [Nat.zero_add] at this
theorem zac0 {p:za} (hf:FitPr 140737488351232 p) {now:Int} (hg:zag p=true) (c:Int):z6g (zlw p now) c:=by
 have hq:=zxm (now:=now) hg
 obtain ⟨S,D,M,e,hS,d0,d1⟩:=hq.1
 have ht:=hf.told c
 have hu:=hf.due c
 refine ⟨?_,z1d _,?_,?_⟩
 ·show ((zc0 p now).1.Links.Told.get c).length≤_
  rw[e];show (p.Links.Told.get c).length≤_;omega
 ·show ((zc0 p now).1.Links.Done.get c).length≤6
  exact zz2 hq.1.get
 ·show ((zc0 p now).1.Links.Due.get c).length≤_
  rw[e];show (p.Links.Due.get c).length≤_;omega
theorem zak3 {p:za} {now:Int} (h:z6g p 1):z6g (zdh p 0 now) 1:=by
 unfold zdh
 split
 ·exact h
 ·split
  ·exact h
  ·split
   ·exact h
   ·exact ⟨h.t,h.s,h.d,h.u⟩
theorem zac1 {p:za} {now:Int}:(((!zag p)||(decide (now < p.Time)))||(decide (now > 1099511627776))) = !decide (zag p=true∧p.Time≤now∧now≤1099511627776):=by
 rw[Bool.eq_iff_iff]
 simp only[Bool.or_eq_true,Bool.not_eq_true',decide_eq_true_eq,yy8]
 cases zag p<;>simp<;>omega
theorem zaej {p:za} (hf:FitPr 140737488351232 p) {now:Int}:zci p now=some (zjj p now):=by
 have hset:=hf.set
 rw[zci,zpe,Tr.rb (zii hf)]
 unfold zjj
 by_cases hg:zag p=true∧p.Time≤now∧now≤1099511627776
 ·obtain ⟨hg1,hg2⟩:=hg
  have hnum:=(zij hg1).2.1
  unfold zy1 at hnum
  rw[if_pos ⟨hg1,hg2⟩,Tr.rf (by rw[zac1,decide_eq_true ⟨hg1,hg2⟩];rfl),Tr.rg (by rw[zami (by omega)];rfl),zami (by omega)]
  simp only[yy2]
  rw[Tr.rg (by rw[zact (zacy _)];rfl),zact (zacy _),zj (x:=p.Height+1) (by omega) (by omega)]
  simp only[yy2]
  have hloop:=zak1 (p0:=zor p now) (q:=p) (now:=now) (d:=default) (l:=p.Queue) (p:=zor p now) (z8p hg1) hf.queue (fun a ha=>⟨(z11 hg1 a ha).1,ha⟩)
  have hinv:=zxm (now:=now) hg1
  have hgs:GoodS (zc0 p now).1.Stake:=hinv.1.good
  have hpay:=zacn hgs now
  have hz:(z3z (zc0 p now).1.Stake now).2.2=0:=by rw[zaav hgs]
  rw[Tr.rb (show zf1 now p.Queue ((p.Queue.length:Nat):Int) 0 (⟨p.Height+1,now,p.Stake,p.Set,p.Links,z8k p.Meter (allP p.Set) now,p.Queue⟩:za) default ⟨false,false⟩ []=some (now,(zc0 p now).1,default,(zc0 p now).2.2) from hloop)]
  simp only[]
  rw[Tr.rb (show zoj (zc0 p now).1.Stake now=_ from zat7),Tr.rf (by rw[hz];rfl),Tr.rb (zaua hpay)]
  have h0:=zahx (now:=now) (zac0 hf (now:=now) hg1 0) (by omega) (by omega)
  have h1:=zahx (now:=now) (zak3 (now:=now) (zac0 hf (now:=now) hg1 1)) (by omega) (by omega)
  rw[Tr.rb (v:=((z3z (zc0 p now).1.Stake now).2.1,zdh (zdh (zlw p now) 0 now) 1 now,default)) (by
   show zjc now (z3z (zc0 p now).1.Stake now).2.1 0 (zlw p now) default=_
   rw[zjc,zcj (s':=(now,(z3z (zc0 p now).1.Stake now).2.1,((1:Nat):Int),zdh (zlw p now) 0 now,default)) (by
     simp only[zeu]
     rw[Tr.rt (by simp),Tr.rb h0,Tr.rl];rfl),
    zcj (s':=(now,(z3z (zc0 p now).1.Stake now).2.1,((2:Nat):Int),zdh (zdh (zlw p now) 0 now) 1 now,default)) (by
     simp only[zeu]
     rw[Tr.rt (by simp)]
     rw[Tr.rb (show zht ((1:Nat):Int) now _=_ from h1),Tr.rl];rfl),
    zew (by
     simp only[zeu]
     rw[Tr.rf (by simp),Tr.rl])]),Tr.rl]
 ·rw[if_neg hg,Tr.rt (by rw[zac1,decide_eq_false hg];rfl),Tr.rl]
theorem z39:zag z8l=true:=by decide
theorem zac2 {p:za} {c now:Int} (h:p.Links.On.get c=false):zdh p c now=p:=by unfold zdh;rw[if_pos (.inl h)]
theorem ze3 (l:List Asked):Sl.len (.asked l)=l.length:=rfl
theorem zaek {s:Stake} (hg:GoodS s) {v h:Int} (hv:0≤v∧v < 6):(zex s v h 50).2.2=0:=by
 unfold zex
 rw[if_neg (by rw[z33 hg (by omega) hv];simp),if_neg (by omega)]
theorem zahy {s:Stake} (hg:GoodS s) {v:Int} (hv:0≤v∧v < 6) (hd:s.Validators.Dead.get v=false):(zbf s v 2).2=0:=by
 unfold zbf
 rw[if_neg (by rw[z33 hg (by omega) hv];simp),if_neg (by omega),if_neg (by rw[hd];simp),if_neg (by omega)]
theorem zael (s:Stake) (v h f:Int):(zex s v h f).1.Validators.Dead=s.Validators.Dead:=by
 unfold zex
 repeat' split
 all_goals rfl
def zti (p:za) (v h:Int):za×Int :=
 if zag p=false then (p,2) else if 0≤v∧v < 6 then (if 1≤h∧h≤p.Height then (if p.Stake.Validators.Dead.get v=true then (p,15) else ({ p with Stake:=(zbf (zex p.Stake v h 50).1 v 2).1 },0)) else (p,2)) else (p,4)
theorem z12 {p:za} (hf:FitPr 140737488351232 p) {v h:Int}:zg4 p v h=some (zti p v h):=by
 rw[zg4,zh8,Tr.rb (zii hf)]
 unfold zti
 cases hg:zag p with
 | false=>rw[zxk,Tr.rl,if_pos rfl]
 | true =>
  rw[zxj,if_neg (by simp)]
  by_cases hv:0≤v∧v < 6
  ·rw[Tr.rf (by simp;omega),if_pos hv]
   by_cases hh:1≤h∧h≤p.Height
   ·rw[Tr.rf (by simp;omega),if_pos hh,Tr.rg hv]
    cases hd:p.Stake.Validators.Dead.get v with
    | true=>rw[Tr.rt rfl,Tr.rl,if_pos rfl]
    | false =>
     have hs:=(zij hg).1
     rw[Tr.rf rfl,if_neg (by simp),Tr.rb z6b,Tr.rf (by rw[zaek hs hv];rfl),Tr.rb zaan,Tr.rf (by rw[zahy (zth hs v h 50) hv (by rw[zael];exact hd)];rfl),Tr.rl]
   ·rw[Tr.rt (by simp;omega),Tr.rl,if_neg hh]
  ·rw[Tr.rt (by simp;omega),Tr.rl,if_neg hv]
def zl5 (p:za) (c:Int) (s:List UInt8):za×Int :=
 if zag p=false then (p,2) else if (0≤c∧c < 2)∧p.Links.On.get c=true then (if (zar s).2≠0 then (p,(zar s).2) else if (zar s).1.Kind=1 then (p,3) else ({ p with Queue:=p.Queue++[⟨c,(zar s).1⟩] },0)) else (p,4)
theorem z4a {l:List Asked} (h:l.length*88≤140737488351232):zan l=some l:=by
 rw[zan,zei]
 refine Tr.run_split (fun h0=>?_) (fun _=>?_) (.inr trivial)
 ·rw[Tr.rl,List.length_eq_zero_iff.1 h0]
 ·rw[Tr.rg (by simp only[ze3,List.length_nil];omega),Tr.rl]
theorem zaa3 {p:za} (hf:FitPr 140737488351232 p) {c:Int} {a:ByteArray} (ha:a.size≤140737488355328):zaw p c a=some (zl5 p c a.data.toList):=by
 have e1:zcd a=some (zar a.data.toList):=z1m (s:=a.data.toList) (by have:a.data.toList.length=a.size:=rfl;omega)
 have hq:=hf.queue
 rw[zaw,znm,Tr.rb e1,Tr.rb (zii hf)]
 simp only[z4a hf.queue,Option.isSome_some,yy2]
 unfold zl5
 cases hg:zag p with
 | false=>rw[zxk,Tr.rl,if_pos rfl]
 | true =>
  rw[zxj,if_neg (by simp),Tr.rg (by
   intro h0
   simp only[Bool.or_eq_false_iff,yy8] at h0
   exact ⟨by omega,trivial⟩)]
  by_cases hc:(0≤c∧c < 2)∧p.Links.On.get c=true
  ·rw[if_pos hc,Tr.rf (by rw[hc.2];simp;omega)]
   by_cases hd:(zar a.data.toList).2=0
   ·rw[Tr.rf (by simpa using hd),if_neg (by simpa using hd)]
    by_cases hk:(zar a.data.toList).1.Kind=1
    ·rw[Tr.rt (by simpa using hk),if_pos hk,Tr.rl]
    ·rw[Tr.rf (by simpa using hk),if_neg hk,Tr.rg (by trivial),Tr.rg (by simp only[ze3,yy5];omega),Tr.rl]
   ·rw[Tr.rt (by simpa using hd),if_pos hd,Tr.rl]
  ·rw[if_neg hc,Tr.rt (by
    simp only[Bool.or_eq_true,decide_eq_true_eq,Bool.not_eq_true']
    by_cases h1:0≤c∧c < 2
    ·exact .inr (Bool.eq_false_iff.2 (fun h2=>hc ⟨h1,h2⟩))
    ·exact .inl (by omega)),Tr.rl]
theorem zxn {p:Packet} (h:zca p=0):p.Set.length≤6∧p.Done.length≤6:=by
 obtain ⟨_,_,_,_,_,_,_,_,g9,g10,_⟩:=zmu h
 have l1:=zkb g9 (by omega)
 exact ⟨by omega,zz2 g10⟩
theorem zac3 {s:List UInt8} (h:(zar s).2=0):zca (zar s).1=0:=by
 unfold zar at h ⊢
 split
 ·rename_i k;rw[if_pos k] at h;cases h
 ·rename_i k
  rw[if_neg k] at h
  split
  ·rename_i k2;rw[if_pos k2] at h;exact absurd h k2
  ·rename_i k2;exact Classical.not_not.1 k2
def zgy (L:Links) (c H:Int) (T:List Power) (f:Bool):Links :=
 ⟨L.On.set c true,L.Gone.set c false,L.Base.set c H,L.Told.set c T,L.Fresh.set c f,L.Done.set c [],L.Said.set c [],L.Due.set c [],L.Got.set c 0,L.Closed.set c false,L.SHeight.set c 0,L.STime.set c 0,L.SSaid.set c 0,L.SGot.set c 0⟩
def zl6 (p:za) (c:Int) (W:List Wait) (f:Bool):za:={ p with Stake:={ p.Stake with Waits:=W },Links:=zgy p.Links c p.Height p.Set f }
def zdc (c H:Int) (w:Wait):Wait:=if H < w.Height then { w with h0:=if c=0 then w.Height else w.h0,h1:=if c=1 then w.Height else w.h1 } else w
def ztj (p:za):Bool:=p.Stake.Waits.any (fun w=>decide (p.Height < w.Height))
def zds (p:za) (c:Int):za×Int :=
 if zag p=false then (p,2) else if 0≤c∧c < 2 then (if p.Links.Gone.get c=true then (p,11) else if p.Links.On.get c=true then (p,5) else if p.Height < 1∨p.Set.length=0 then (p,13)
  else (zl6 p c (p.Stake.Waits.map (zdc c p.Height)) (ztj p),0)) else (p,4)
theorem zac4 {α:Type} (q:α→Bool):∀ (l:List α) (b:Bool),l.foldl (fun t w=>t||q w) b=(b||l.any q)
 | [],b=>by simp
 | a::l,b=>by rw[List.foldl_cons,zac4 q l,List.any_cons,Bool.or_assoc]
theorem zaem {α:Type} (a:A2 α) (c:Int) (x y:α):(a.set c x).set c y=a.set c y:=by
 unfold A2.set
 by_cases h:c=0
 ·subst h;rfl
 ·by_cases h1:c=1
  ·subst h1;rfl
  ·simp[h,h1]
theorem zauh {l W:List Wait} {i:Nat} {w:Wait} (hi:i < W.length) (hg:W.getD i default=w):W.set i w=W:=by rw[← hg,z57 hi]
theorem zaen {p z:za} {c:Int} (hc:0≤c∧c < 2) (hw:p.Stake.Waits.length*64≤140737488351232) :
  zg3 c p.Stake.Waits.length 0 (zl6 p c p.Stake.Waits false) z=some (zl6 p c (p.Stake.Waits.map (zdc c p.Height)) (ztj p),z):=by
 rw[zg3]
 have:=z58 (F:=fun s:Int×Int×Int×za×za=>(zda s.1 s.2.1 s.2.2.1 s.2.2.2.1 s.2.2.2.2).run) p.Stake.Waits default
  (fun i W (f:Bool)=>(c,(p.Stake.Waits.length:Int),(i:Int),zl6 p c W f,z)) (fun _ _=>True) (zdc c p.Height) (fun t w=>t||decide (p.Height < w.Height)) (fun W f=>(zl6 p c W f,z)) ?_ ?_ false trivial
 ·rw[zac4] at this
  exact this
 ·intro W t hW _
  simp only[zda];rw[Tr.rf (by simp),Tr.rl]
 ·intro i W t hi hW hg _
  refine ⟨?_,trivial⟩
  simp only[zda]
  rw[yy4,show (zl6 p c W t).Stake.Waits=W from rfl,hg,show (zl6 p c W t).Height=p.Height from rfl]
  generalize hw':p.Stake.Waits.getD i default=w at hg ⊢
  rw[Tr.rt (by simpa using hi),Tr.rg ⟨by omega,by rw[zbx];omega⟩]
  by_cases hp:p.Height < w.Height
  ·rw[Tr.rt (by simpa using hp),Tr.rg hc,Tr.rg hc,Tr.rl,zv (by omega)]
   have e:zdc c p.Height w={ w with h0:=if c=0 then w.Height else w.h0,h1:=if c=1 then w.Height else w.h1 }:=if_pos hp
   rw[e,decide_eq_true hp,Bool.or_true]
   rw[show (zl6 p c W t).Links.Fresh=p.Links.Fresh.set c t from rfl,zaem]
   rfl
  ·rw[Tr.rf (by simpa using hp),Tr.rl,zv (by omega)]
   have e:zdc c p.Height w=w:=if_neg hp
   rw[e,decide_eq_false hp,Bool.or_false,zauh (l:=W) (by omega) hg]
theorem z8q {p:za} (hf:FitPr 140737488351232 p) {c:Int}:zak p c=some (zds p c):=by
 rw[zak,zlr,Tr.rb (zii hf)]
 unfold zds
 cases hg:zag p with
 | false=>rw[zxk,Tr.rl,if_pos rfl]
 | true =>
  rw[zxj,if_neg (by simp)]
  by_cases hc:0≤c∧c < 2
  ·rw[Tr.rf (by simp;omega),if_pos hc,Tr.rg hc]
   cases h1:p.Links.Gone.get c with
   | true=>rw[Tr.rt rfl,Tr.rl,if_pos rfl]
   | false =>
    rw[Tr.rf rfl,if_neg (by simp),Tr.rg hc]
    cases h2:p.Links.On.get c with
    | true=>rw[Tr.rt rfl,Tr.rl,if_pos rfl]
    | false =>
     rw[Tr.rf rfl,if_neg (by simp)]
     have hs:=zkb (zij hg).2.2.1 (by omega)
     by_cases h3:p.Height < 1∨p.Set.length=0
     ·rw[if_pos h3,Tr.rt (by simp only[Bool.or_eq_true,decide_eq_true_eq,beq_iff_eq];omega),Tr.rl]
     ·have hcl:=zv0 (l:=p.Set) (by omega)
      rw[if_neg h3,Tr.rf (by simp only[Bool.or_eq_false_iff,yy8,beq_eq_false_iff_ne];omega),Tr.rg (by rw[hcl];rfl),Tr.rg hc,Tr.rb (zxh hf.waits),hcl,Tr.rb (v:=(zl6 p c (p.Stake.Waits.map (zdc c p.Height)) (ztj p),default)) (by exact zaen hc hf.waits),Tr.rl]
  ·rw[Tr.rt (by simp;omega),Tr.rl,if_neg hc]
def ztv (L:Links) (c:Int):Links:={ L with On:=L.On.set c false,Gone:=L.Gone.set c true,Fresh:=L.Fresh.set c false,Done:=L.Done.set c [],Closed:=L.Closed.set c true }
def zzo (c:Int) (a:Asked):Bool:=a.C != c
def zrp (p:za) (c:Int):za:={ p with Stake:=zmo p.Stake c 1099511627776,Links:=ztv p.Links c,Queue:=p.Queue.filter (zzo c) }
def zrq (p:za) (c:Int):za:=if zag p=true∧(0≤c∧c < 2)∧p.Links.On.get c=true then zrp p c else p
theorem zaml (a:Asked) (c:Int):zee a c=some (!zzo c a,c):=by
 rw[zee,zh2,Tr.rl]
 unfold zzo
 simp[bne]
theorem zke {α:Type} {l:List α} {i:Nat} (h:i < l.length) (d:α):l.take (i+1)=l.take i++[l.getD i d]:=by
 rw[List.take_succ_eq_append_getElem h,zp9 h]
theorem zaeo {l:List Asked} {c:Int} (hl:l.length*88≤140737488351232) :
  ∃ r,zbi l.length 0 c l=some r ∧
   (match r with | .inl y=>∃ k:Nat,y=((k:Int),c,l)∧k < l.length∧(l.take k).all (zzo c)=true∧zzo c (l.getD k default)=false | .inr y=>y=(c,l)∧l.all (zzo c)=true):=by
 rw[zbi]
 have:=zgh (F:=fun s:Int×Int×Int×(List Asked)=>(zab s.1 s.2.1 s.2.2.1 s.2.2.2).run) l.length (fun i (_:Unit)=>((l.length:Int),(i:Int),c,l)) (fun i _=>(l.take i).all (zzo c)=true)
  (fun i _ r=>match r with | .inl y=>∃ k:Nat,y=((k:Int),c,l)∧k < l.length∧(l.take k).all (zzo c)=true∧zzo c (l.getD k default)=false | .inr y=>y=(c,l)∧l.all (zzo c)=true) ?_ ?_ 0 () (Nat.zero_le _) rfl
 ·exact this
 ·intro t h
  refine ⟨.inr (c,l),?_,rfl,by rwa [List.take_length] at h⟩
  simp only[zab];rw[Tr.rf (by simp),Tr.rl]
 ·intro i t hi h
  simp only[zab]
  rw[yy4,Tr.rt (by simpa using hi),Tr.rg ⟨by omega,by rw[ze3];omega⟩,Tr.rb (zaml _ _)]
  cases hn:zzo c (l.getD i default) with
  | true=>exact .inl ⟨(),by rw[Tr.rf (by rfl),Tr.rl,zv (by omega)],by rw[zke hi default,List.all_append,h,List.all_cons,hn];rfl,fun r hr=>hr⟩
  | false=>exact .inr ⟨.inl ((i:Int),c,l),by rw[Tr.rt (by rfl),Tr.rl],i,rfl,hi,h,hn⟩
theorem zaa4 {l:List Asked} {c:Int} (hl:l.length*88≤140737488351232) {k:Nat} (hk:k < l.length) (ha:(l.take k).all (zzo c)=true) (hn:zzo c (l.getD k default)=false) :
  ∃ r,zbn k ((k+1:Nat):Int) c l=some r∧∃ n:Nat,r.1=n∧r.2.1=c∧n≤l.length∧r.2.2.length=l.length∧r.2.2.take n=l.filter (zzo c):=by
 rw[zbn]
 have:=zgh (F:=fun s:Int×Int×Int×(List Asked)=>(zaf s.1 s.2.1 s.2.2.1 s.2.2.2).run) l.length (fun i (t:Nat×List Asked)=>((t.1:Int),(i:Int),c,t.2)) (fun i t=>t.1 < i∧t.2.length=l.length∧t.2.take t.1=(l.take i).filter (zzo c)∧t.2.drop i=l.drop i)
  (fun i _ r=>∃ n:Nat,r.1=n∧r.2.1=c∧n≤l.length∧r.2.2.length=l.length∧r.2.2.take n=l.filter (zzo c)) ?_ ?_ (k+1) (k,l) (by omega) ⟨by omega,rfl,?_,rfl⟩
 ·exact this
 ·rintro ⟨n,W⟩ ⟨h1,h2,h3,h4⟩
  simp only at h1 h2 h3 h4
  refine ⟨((n:Int),c,W),?_,n,rfl,rfl,by omega,h2,by rw[h3,List.take_length]⟩
  simp only[zaf];rw[Tr.rf (by simp;omega),Tr.rl]
 ·rintro i ⟨n,W⟩ hi ⟨h1,h2,h3,h4⟩
  simp only at h1 h2 h3 h4
  have hg:W.getD i default=l.getD i default:=by
   have e1:=za0 (l:=W) (k:=i) (by omega) default
   have e2:=za0 (l:=l) (k:=i) hi default
   rw[h4,e2] at e1
   exact (List.cons.inj e1).1.symm
  have hd:W.drop (i+1)=l.drop (i+1):=by
   have e1:=za0 (l:=W) (k:=i) (by omega) default
   have e2:=za0 (l:=l) (k:=i) hi default
   rw[h4,e2] at e1
   exact (List.cons.inj e1).2.symm
  simp only[zaf]
  rw[yy4,yy4,hg,Tr.rt (by simp;omega),Tr.rg ⟨by omega,by rw[ze3];omega⟩,Tr.rb (zaml _ _)]
  cases hq:zzo c (l.getD i default) with
  | true =>
   refine .inl ⟨(n+1,W.set n (l.getD i default)),by rw[Tr.rt (by rfl),Tr.rg ⟨by omega,by rw[ze3];omega⟩,Tr.rl,zv (by omega),zv (by omega)],⟨by simp only[];omega,by simp only[List.length_set];exact h2,?_,?_⟩,fun r hr=>hr⟩
   ·simp only[]
    rw[zke (by rw[List.length_set];omega) default,List.take_set_of_le (by omega),h3,zke hi default,List.filter_append,zp9 (by rw[List.length_set];omega),List.getElem_set_self,List.filter_cons,hq]
    rfl
   ·simp only[]
    rw[List.drop_set_of_lt (by omega),hd]
  | false =>
   refine .inl ⟨(n,W),by rw[Tr.rf (by rfl),Tr.rl,zv (by omega)],⟨by simp only[];omega,h2,?_,hd⟩,fun r hr=>hr⟩
   simp only[]
   rw[h3,zke hi default,List.filter_append,List.filter_cons,hq]
   simp
 ·simp only[]
  rw[zke hk default,List.filter_append,List.filter_cons,hn,List.filter_eq_self.2 (fun a h=>List.all_eq_true.1 ha a h)]
  simp
theorem zaep {l:List Asked} {c:Int} (hl:l.length*88≤140737488351232):zch c l=some (c,l.filter (zzo c)):=by
 have hi:zax c l=some (-1,c,l)∧l.all (zzo c)=true∨∃ k:Nat,zax c l=some ((k:Int),c,l)∧k < l.length∧(l.take k).all (zzo c)=true∧zzo c (l.getD k default)=false:=by
  obtain ⟨r,h1,h2⟩:=zaeo (c:=c) hl
  rw[zax,zcg]
  cases r with
  | inl y =>
   obtain ⟨k,rfl,h3,h4,h5⟩:=h2
   exact .inr ⟨k,by rw[Tr.ri h1,Tr.rl],h3,h4,h5⟩
  | inr y =>
   obtain ⟨rfl,h3⟩:=h2
   exact .inl ⟨by rw[Tr.rj h1,Tr.rl],h3⟩
 rw[zch,zcw]
 rcases hi with ⟨h1,h2⟩ | ⟨k,h1,h2,h3,h4⟩
 ·rw[Tr.rb h1,Tr.rt (by rfl),Tr.rl,List.filter_eq_self.2 (fun a h=>List.all_eq_true.1 h2 a h)]
 ·obtain ⟨r,k1,n,k2,k3,k4,k5,k6⟩:=zaa4 hl h2 h3 h4
  have hcl:z62 r.2.2 r.1=some (r.2.2.take n++List.replicate (r.2.2.length - n) default):=by
   unfold z62
   rw[k2,if_pos (by omega),yy4]
  have hlt:(r.2.2.take n).length=n:=by rw[List.length_take];omega
  rw[Tr.rb h1,Tr.rf (by simp),zv (by omega),Tr.rb k1,Tr.rb hcl,k2,Tr.rg ⟨by omega,by rw[ze3,yy6,hlt];omega⟩,Tr.rl,k3,yy4,List.drop_zero,Nat.sub_zero,List.take_left' hlt,k6]
theorem z6h {p:za} (hf:FitPr 140737488351232 p) {c:Int}:zcq p c=some (zrq p c):=by
 rw[zcq,zka,Tr.rb (zii hf)]
 unfold zrq
 rw[Tr.rg (by
  intro h0
  simp only[Bool.or_eq_false_iff,yy8] at h0
  exact ⟨by omega,trivial⟩)]
 by_cases h:zag p=true∧(0≤c∧c < 2)∧p.Links.On.get c=true
 ·obtain ⟨h1,h2,h3⟩:=h
  rw[if_pos ⟨h1,h2,h3⟩,Tr.rf (by rw[h1,h3];simp;omega),Tr.rg h2,Tr.rg h2,Tr.rg h2,Tr.rg h2,Tr.rg h2,Tr.rb (zyd hf.waits),Tr.rb (z4a hf.queue),Tr.rb (zaep hf.queue),Tr.rl]
  rfl
 ·rw[if_neg h,Tr.rt (by
   simp only[Bool.or_eq_true,decide_eq_true_eq,Bool.not_eq_true']
   cases h1:zag p with
   | false=>exact .inl (.inl (.inl rfl))
   | true =>
    by_cases h2:0≤c∧c < 2
    ·exact .inr (Bool.eq_false_iff.2 (fun h3=>h ⟨h1,h2,h3⟩))
    ·exact .inl (by omega)),Tr.rl]
theorem z8r {α:Type} {P:α→Prop} {a:A2 α} (h0:P (a.get 0)) (h1:P (a.get 1)) (c:Int):P (a.get c):=by
 by_cases h:c=0
 ·rw[h];exact h0
 ·have:a.get c=a.get 1:=by unfold A2.get;rw[if_neg h];rfl
  rw[this];exact h1
theorem z13 {m:Int}:∀ {l:List Power} {p:Int},(∀ q,q∈l→p < q.V∧q.V≤5∧m≤q.N∧q.N≤1125899906842624)→l.Pairwise (fun a b=>a.V < b.V)→zw m p l=true
 | [],p,_,_=>rfl
 | q::l,p,h1,h2=>by
  have hq:=h1 q (List.mem_cons_self ..)
  rw[List.pairwise_cons] at h2
  simp only[zw,yy7,decide_eq_true_eq]
  exact ⟨⟨⟨⟨hq.1,hq.2.1⟩,hq.2.2.1⟩,hq.2.2.2⟩,z13 (fun x hx=>⟨h2.1 x hx,(h1 x (List.mem_cons_of_mem _ hx)).2⟩) h2.2⟩
theorem zaui {s:Stake} (hg:GoodS s):zw 1 (-1) (setS s)=true:=by
 refine z13 (fun q hq=>?_) (zte _)
 obtain ⟨hv,_,hn,h1⟩:=zakq hg hq
 have:=(hg.at hv).1.1
 unfold inA at this
 omega
def GoodX (p:za):Prop:=GoodS p.Stake∧(0≤p.Height∧0≤p.Time∧p.Time≤1099511627776)∧zw 1 (-1) p.Set=true∧z8i p 0=true∧z8i p 1=true∧p.Queue.all (zt7 p)=true
theorem goodPr_iff {p:za}:zag p=true↔GoodX p∧p.Height < 1099511627776:=by
 constructor
 ·intro h
  obtain ⟨a,⟨b1,b2,b3,b4⟩,c,d,e,f⟩:=zij h
  exact ⟨⟨a,⟨b1,b3,b4⟩,c,d,e,f⟩,b2⟩
 ·rintro ⟨⟨a,⟨b1,b3,b4⟩,c,d,e,f⟩,b2⟩
  unfold zag
  simp only[yy7,decide_eq_true_eq]
  exact ⟨⟨⟨⟨⟨a,b1,b2,b3,b4⟩,c⟩,d⟩,e⟩,f⟩
structure LkX (p:za) (c:Int):Prop where
 on:¬ (p.Links.On.get c=true∧p.Links.Gone.get c=true)
 b0:0≤p.Links.Base.get c
 b1:p.Links.Base.get c≤p.Height
 told:zw 1 (-1) (p.Links.Told.get c)=true
 line:zd4 (zfn p.Links c)
 done:zal (-1) (p.Links.Done.get c)=true
theorem okLk_iff {p:za} {c:Int}:z8i p c=true↔LkX p c:=by
 unfold z8i
 simp only[yy7,decide_eq_true_eq]
 constructor
 ·rintro ⟨⟨⟨⟨⟨h1,h2⟩,h3⟩,h4⟩,h5⟩,h6⟩
  exact ⟨fun ⟨x,y⟩=>(by rw[x,y] at h1;cases h1),h2,h3,h4,h5,h6⟩
 ·rintro ⟨h1,h2,h3,h4,h5,h6⟩
  refine ⟨⟨⟨⟨⟨?_,h2⟩,h3⟩,h4⟩,h5⟩,h6⟩
  cases x:p.Links.On.get c
  ·rfl
  ·cases y:p.Links.Gone.get c
   ·rfl
   ·exact absurd ⟨x,y⟩ h1
theorem GoodX.lk {p:za} (h:GoodX p) {c:Int} (hc:0≤c∧c < 2):LkX p c:=by
 rcases (show c=0∨c=1 by omega) with rfl | rfl
 ·exact okLk_iff.1 h.2.2.2.1
 ·exact okLk_iff.1 h.2.2.2.2.1
theorem ask_iff {p:za} {a:Asked}:zt7 p a=true↔(0≤a.C∧a.C < 2)∧p.Links.On.get a.C=true∧zca a.P=0∧a.P.Kind≠1:=by
 unfold zt7
 simp only[yy7,decide_eq_true_eq,beq_iff_eq,Bool.not_eq_true',beq_eq_false_iff_ne]
 constructor
 ·rintro ⟨⟨⟨⟨c0,c1⟩,c2⟩,c3⟩,c4⟩;exact ⟨⟨c0,c1⟩,c2,c3,c4⟩
 ·rintro ⟨⟨c0,c1⟩,c2,c3,c4⟩;exact ⟨⟨⟨⟨c0,c1⟩,c2⟩,c3⟩,c4⟩
theorem GoodX.ask {p:za} (h:GoodX p) {a:Asked} (ha:a∈p.Queue):(0≤a.C∧a.C < 2)∧p.Links.On.get a.C=true∧zca a.P=0∧a.P.Kind≠1:=ask_iff.1 (List.all_eq_true.1 h.2.2.2.2.2 a ha)
theorem fitX {p:za} (h:GoodX p) {R:Nat} (hR:100000≤R) (hq:p.Queue.length*88≤R):FitPr R p:=by
 have l0:=h.lk (c:=0) (by omega)
 have l1:=h.lk (c:=1) (by omega)
 have lp:∀ {l:List Power},zw 1 (-1) l=true→l.length*16≤R:=fun hl=>by have:=zkb hl (by omega);omega
 have ld:∀ {l:List Int},zal (-1) l=true→l.length*8≤R:=fun hl=>by have:=zz2 hl;omega
 have lS:∀ {c:Int},LkX p c→(p.Links.Said.get c).length≤400∧(p.Links.Due.get c).length≤400:=by
  intro c l
  have e1:(p.Links.Said.get c).length=(p.Links.Due.get c).length:=l.line.1
  have e2:(p.Links.Said.get c).length≤400:=l.line.2.1
  omega
 have s0:=lS l0
 have s1:=lS l1
 have hw:p.Stake.Waits.length≤60:=h.1.2.1.2.2
 have t0:=lp l0.told;have t1:=lp l1.told;have d0:=ld l0.done;have d1:=ld l1.done
 have hset:=lp h.2.2.1
 have hask:=fun a ha=>zxn (h.ask (a:=a) ha).2.2.1
 have hw':p.Stake.Waits.length*64≤R:=by omega
 have a0:(p.Links.Said.get 0).length*16≤R:=by omega
 have a1:(p.Links.Said.get 1).length*16≤R:=by omega
 have b0:(p.Links.Due.get 0).length*8≤R:=by omega
 have b1:(p.Links.Due.get 1).length*8≤R:=by omega
 have hps:∀ a,a∈p.Queue→a.P.Set.length*16≤R∧a.P.Done.length*8≤R:=fun a ha=>by have:=hask a ha;omega
 exact ⟨hw',hset,fun c=>z8r (P:=fun l:List Power=>l.length*16≤R) (a:=p.Links.Told) t0 t1 c,fun c=>z8r (P:=fun l:List Int=>l.length*8≤R) (a:=p.Links.Done) d0 d1 c,
  fun c=>z8r (P:=fun l:List ByteArray=>l.length*16≤R) (a:=p.Links.Said) a0 a1 c,fun c=>z8r (P:=fun l:List Int=>l.length*8≤R) (a:=p.Links.Due) b0 b1 c,hq,hps⟩
theorem zaeq {l:zgz} {s:ByteArray} {u:Int} (h:zd4 l) (hu:0≤u):zd4 (z5x l s u).1:=by
 unfold z5x
 rw[if_neg (by rintro (k | k);exact k h;omega)]
 split
 ·exact h
 ·split
  ·exact h
  ·rename_i h4
   obtain ⟨g1,g2,g3,g4,g5⟩:=h
   refine ⟨by simp[g1],by simp only[yy6,yy5];omega,g3,by simp only[yy6,yy5];omega,?_⟩
   simp only[List.any_append,g5,Bool.false_or,List.any_cons,List.any_nil,Bool.or_false,yy8]
   omega
theorem zz3 {p:za} (hg:zag p=true) (now:Int):∃ S D M,(zc0 p now).1=upP (zor p now) S D M∧GoodS S∧(∀ c:Int,zal (-1) (D.get c)=true)∧(zc0 p now).2.2.length≤p.Queue.length∧∀ b,b∈(zc0 p now).2.2→b∈p.Queue:=by
 obtain ⟨⟨S,D,M,e,hS,d0,d1⟩,hq2,hq3,hq4⟩:=zxm (now:=now) hg
 exact ⟨S,D,M,e,hS,z8r (P:=fun l=>zal (-1) l=true) d0 d1,hq2,hq4⟩
theorem z8s {p:za} (hg:zag p=true) {now:Int} (hn:p.Time≤now∧now≤1099511627776):GoodX (zlw p now):=by
 obtain ⟨S,D,M,e,hS,hd,hl,hm⟩:=zz3 hg now
 have hx:=(goodPr_iff.1 hg).1
 have hp:=zacn hS now
 have hn0:=hx.2.1
 unfold zlw
 rw[e]
 refine ⟨hp,⟨by show 0≤p.Height+1;omega,by show 0≤now;omega,hn.2⟩,zaui hp,okLk_iff.2 ?_,okLk_iff.2 ?_,List.all_eq_true.2 fun b hb=>?_⟩
 ·obtain ⟨a1,a2,a3,a4,a5,a6⟩:=hx.lk (c:=0) (by omega)
  exact ⟨a1,a2,by show p.Links.Base.get 0≤p.Height+1;omega,a4,a5,hd 0⟩
 ·obtain ⟨a1,a2,a3,a4,a5,a6⟩:=hx.lk (c:=1) (by omega)
  exact ⟨a1,a2,by show p.Links.Base.get 1≤p.Height+1;omega,a4,a5,hd 1⟩
 ·exact ask_iff.2 (hx.ask (hm b hb))
theorem zqd (p:za) (c now:Int):(zdh p c now).Height=p.Height∧(zdh p c now).Time=p.Time∧(zdh p c now).Stake=p.Stake∧(zdh p c now).Set=p.Set∧(zdh p c now).Meter=p.Meter∧(zdh p c now).Queue=p.Queue ∧
  (zdh p c now).Links.On=p.Links.On∧(zdh p c now).Links.Gone=p.Links.Gone∧(zdh p c now).Links.Base=p.Links.Base∧(zdh p c now).Links.SHeight=p.Links.SHeight∧(zdh p c now).Links.STime=p.Links.STime∧(zdh p c now).Links.SSaid=p.Links.SSaid∧(zdh p c now).Links.SGot=p.Links.SGot:=by
 unfold zdh
 repeat' split
 all_goals exact ⟨rfl,rfl,rfl,rfl,rfl,rfl,rfl,rfl,rfl,rfl,rfl,rfl,rfl⟩
theorem z4b {p:za} {c j now:Int} (hc:0≤c∧c < 2) (hj:0≤j∧j < 2) (h:j≠c):(zdh p c now).Links.Told.get j=p.Links.Told.get j∧(zdh p c now).Links.Fresh.get j=p.Links.Fresh.get j∧(zdh p c now).Links.Done.get j=p.Links.Done.get j∧zfn (zdh p c now).Links j=zfn p.Links j:=by
 unfold zdh
 repeat' split
 ·exact ⟨rfl,rfl,rfl,rfl⟩
 ·exact ⟨rfl,rfl,rfl,rfl⟩
 ·exact ⟨rfl,rfl,rfl,rfl⟩
 ·unfold zak2 zfn
  simp only[zx _ _ hc hj,if_neg h]
  exact ⟨trivial,trivial,trivial,trivial⟩
theorem zauj {p:za} {c:Int} (hs:zw 1 (-1) p.Set=true):zw 0 (-1) (dOf p c)=true:=by
  have hb:∀ v:Nat,0≤fP p.Set v∧fP p.Set v≤1125899906842624:=by
    intro v
    unfold fP
    have hm:=zmt (by omega) hs (by omega)
    revert hm
    generalize p.Set=l
    intro hm
    induction l with
    | nil=>simp[zdr]
    | cons q l ih =>
      simp only[zdr]
      split
      · have:=hm q (List.mem_cons_self ..);omega
      · exact ih (fun q hq=>hm q (List.mem_cons_of_mem _ hq))
  unfold dOf
  generalize fP p.Set=g at hb
  generalize fP (p.Links.Told.get c)=f
  have hm:∀ q,q∈zur f g→∃ v:Nat,v < 6∧q=⟨v,g v⟩:=by
    intro q hq
    rw[z1f] at hq
    simp only[List.mem_append,List.not_mem_nil,or_false] at hq
    have key:∀ v:Nat,v < 6→q∈z1e (v:Int) (g v) (f v)→∃ v:Nat,v < 6∧q=⟨v,g v⟩:=by
      intro v hv h
      unfold z1e at h
      split at h
      · exact ⟨v,hv,List.mem_singleton.1 h⟩
      · cases h
    rcases hq with h | h | h | h | h | h
    · exact key 0 (by omega) h
    · exact key 1 (by omega) h
    · exact key 2 (by omega) h
    · exact key 3 (by omega) h
    · exact key 4 (by omega) h
    · exact key 5 (by omega) h
  refine z13 (fun q hq=>?_) ?_
  · obtain ⟨v,hv,rfl⟩:=hm q hq
    have:=hb v
    refine ⟨by show (-1:Int) < (v:Int);omega,by show (v:Int)≤5;omega,this.1,this.2⟩
  · rw[z1f]
    have one:∀ (v:Int) (x y:Int),(z1e v x y).Pairwise (fun a b=>a.V < b.V):=by
      intro v x y;unfold z1e;split
      · exact List.pairwise_singleton ..
      · exact .nil
    have mem:∀ {v x y:Int} {q:Power},q∈z1e v x y→q.V=v:=by
      intro v x y q h;unfold z1e at h;split at h
      · rw[List.mem_singleton.1 h]
      · cases h
    refine List.pairwise_append.2 ⟨one _ _ _,List.pairwise_append.2 ⟨one _ _ _,List.pairwise_append.2 ⟨one _ _ _,List.pairwise_append.2 ⟨one _ _ _,List.pairwise_append.2 ⟨one _ _ _,List.pairwise_append.2 ⟨one _ _ _,.nil,?_⟩,?_⟩,?_⟩,?_⟩,?_⟩,?_⟩
    all_goals
      intro a ha b hb
      have k:=mem ha
      first
      | (exfalso;cases hb;done)
      | (simp only[List.mem_append,List.not_mem_nil,or_false] at hb
         first
         | (rcases hb with h | h | h | h | h<;>have:=mem h<;>omega)
         | (rcases hb with h | h | h | h<;>have:=mem h<;>omega)
         | (rcases hb with h | h | h<;>have:=mem h<;>omega)
         | (rcases hb with h | h<;>have:=mem h<;>omega)
         | (have:=mem hb;omega))
theorem zahz {p:za} {c:Int} (hs:zw 1 (-1) p.Set=true) (hd:zal (-1) (p.Links.Done.get c)=true) (hH:1≤p.Height∧p.Height≤1099511627776):zca (pkOf p c)=0:=by
 unfold zca pkOf
 simp only[]
 rw[if_neg (by omega),if_neg (by omega),if_neg (by omega),zauj hs,hd]
 rfl
theorem zak4 {p:za} {c now:Int} (h:GoodX p) (hc:0≤c∧c < 2) (hH:1≤p.Height∧p.Height≤1099511627776) (hn:0≤now) :
  (zdh p c now=p∧(zy2 p c∨p.Links.Closed.get c=true∨400≤(p.Links.Said.get c).length)) ∨
  (¬ zy2 p c∧p.Links.Closed.get c=false∧(p.Links.Said.get c).length < 400∧(zdh p c now).Links={ p.Links with Told:=p.Links.Told.set c p.Set,Fresh:=p.Links.Fresh.set c false,Done:=p.Links.Done.set c [],Said:=p.Links.Said.set c (p.Links.Said.get c++[txt (zl3 (pkOf p c))]),Due:=p.Links.Due.set c (p.Links.Due.get c++[now+40]) }):=by
 have lk:=h.lk hc
 have hg:=zahz (c:=c) h.2.2.1 lk.done hH
 unfold zdh
 by_cases hq:zy2 p c
 ·rw[if_pos hq];exact .inl ⟨rfl,.inl hq⟩
 ·rw[if_neg hq,zlc hg,if_neg (by simp)]
  have hu:¬ (¬ zd4 (zfn p.Links c)∨now+40 < 0):=by rintro (k | k);exact k lk.line;omega
  cases hcl:p.Links.Closed.get c with
  | true =>
   have:zn5 p c now=(zfn p.Links c,11):=by unfold zn5 z5x;rw[if_neg hu,if_pos hcl]
   rw[this,if_pos (by simp)];exact .inl ⟨rfl,.inr (.inl rfl)⟩
  | false =>
   by_cases h4:400≤(p.Links.Said.get c).length
   ·have:zn5 p c now=(zfn p.Links c,6):=by unfold zn5 z5x;rw[if_neg hu,if_neg (by simp[hcl]),if_pos h4]
    rw[this,if_pos (by simp)];exact .inl ⟨rfl,.inr (.inr h4)⟩
   ·have e:zn5 p c now=(⟨p.Links.Said.get c++[txt (zl3 (pkOf p c))],p.Links.Due.get c++[now+40],p.Links.Got.get c,p.Links.Closed.get c⟩,0):=by
     unfold zn5 z5x;rw[if_neg hu,if_neg (by simp[hcl]),if_neg h4,zlc hg]
    rw[if_neg (by rw[e];simp)]
    refine .inr ⟨hq,rfl,by omega,?_⟩
    unfold zak2
    rw[e]
    simp only[zn1 _ hc]
theorem z14 {p:za} {c now:Int} (h:GoodX p) (hc:0≤c∧c < 2) (hn:0≤now):GoodX (zdh p c now):=by
 unfold zdh
 repeat' split
 ·exact h
 ·exact h
 ·exact h
 ·have hlk:∀ j:Int,0≤j∧j < 2→LkX (zak2 p c now) j:=by
   intro j hj
   obtain ⟨a1,a2,a3,a4,a5,a6⟩:=h.lk hj
   by_cases e:j=c
   ·subst e
    refine ⟨a1,a2,a3,?_,?_,?_⟩
    ·show zw 1 (-1) ((p.Links.Told.set j p.Set).get j)=true
     rw[zx _ _ hj hj,if_pos rfl];exact h.2.2.1
    ·show zd4 ⟨(p.Links.Said.set j (zn5 p j now).1.Said).get j,(p.Links.Due.set j (zn5 p j now).1.Due).get j,(p.Links.Got.set j (zn5 p j now).1.Got).get j,(p.Links.Closed.set j (zn5 p j now).1.Closed).get j⟩
     simp only[zx _ _ hj hj,if_pos]
     refine zaeq a5 ?_
     have:0≤now:=hn
     omega
    ·show zal (-1) ((p.Links.Done.set j []).get j)=true
     rw[zx _ _ hj hj,if_pos rfl];rfl
   ·refine ⟨a1,a2,a3,?_,?_,?_⟩
    ·show zw 1 (-1) ((p.Links.Told.set c p.Set).get j)=true
     rw[zx _ _ hc hj,if_neg e];exact a4
    ·show zd4 ⟨(p.Links.Said.set c (zn5 p c now).1.Said).get j,(p.Links.Due.set c (zn5 p c now).1.Due).get j,(p.Links.Got.set c (zn5 p c now).1.Got).get j,(p.Links.Closed.set c (zn5 p c now).1.Closed).get j⟩
     simp only[zx _ _ hc hj,if_neg e]
     exact a5
    ·show zal (-1) ((p.Links.Done.set c []).get j)=true
     rw[zx _ _ hc hj,if_neg e];exact a6
  exact ⟨h.1,h.2.1,h.2.2.1,okLk_iff.2 (hlk 0 (by omega)),okLk_iff.2 (hlk 1 (by omega)),h.2.2.2.2.2⟩
theorem zak5 {p:za} (hg:zag p=true) {now:Int} (hn:p.Time≤now∧now≤1099511627776):GoodX (zjj p now).1:=by
 unfold zjj
 rw[if_pos ⟨hg,hn⟩]
 have h0:=(goodPr_iff.1 hg).1.2.1
 exact z14 (z14 (z8s hg hn) (by omega) (by omega)) (by omega) (by omega)
theorem z8t {p:za} (hg:zag p=true) {c:Int} (hc:0≤c∧c < 2):zag (zrp p c)=true:=by
 obtain ⟨hx,hH⟩:=goodPr_iff.1 hg
 have hlk:∀ j:Int,0≤j∧j < 2→LkX (zrp p c) j:=by
  intro j hj
  obtain ⟨a1,a2,a3,a4,a5,a6⟩:=hx.lk hj
  refine ⟨?_,a2,a3,a4,a5,?_⟩
  ·show ¬ ((p.Links.On.set c false).get j=true∧(p.Links.Gone.set c true).get j=true)
   rw[zx _ _ hc hj,zx _ _ hc hj]
   by_cases e:j=c
   ·rw[if_pos e];simp
   ·rw[if_neg e,if_neg e];exact a1
  ·show zal (-1) ((p.Links.Done.set c []).get j)=true
   rw[zx _ _ hc hj]
   by_cases e:j=c
   ·rw[if_pos e];rfl
   ·rw[if_neg e];exact a6
 refine goodPr_iff.2 ⟨⟨zy0 hx.1,hx.2.1,hx.2.2.1,okLk_iff.2 (hlk 0 (by omega)),okLk_iff.2 (hlk 1 (by omega)),List.all_eq_true.2 fun b hb=>ask_iff.2 ?_⟩,hH⟩
 obtain ⟨h1,h2⟩:=List.mem_filter.1 hb
 obtain ⟨q1,q2,q3,q4⟩:=hx.ask h1
 refine ⟨q1,?_,q3,q4⟩
 show (p.Links.On.set c false).get b.C=true
 rw[zx _ _ hc q1,if_neg (by simpa[zzo] using h2)]
 exact q2
theorem zah0 {p:za} {now:Int} (h:zag p=true∧p.Time≤now∧now≤1099511627776):(zjj p now).2.2=0:=by unfold zjj;rw[if_pos h]
theorem zxo {p:za} {now:Int} (h:zag p=true∧p.Time≤now∧now≤1099511627776) :
  (zjj p now).1.Height=p.Height+1∧(zjj p now).1.Time=now∧(zjj p now).1.Stake=(z3z (zc0 p now).1.Stake now).1∧(zjj p now).1.Set=setS (z3z (zc0 p now).1.Stake now).1∧(zjj p now).1.Queue=(zc0 p now).2.2 ∧
  (zjj p now).1.Links.On=p.Links.On∧(zjj p now).1.Links.Gone=p.Links.Gone∧(zjj p now).1.Links.Base=p.Links.Base:=by
 unfold zjj
 rw[if_pos h]
 obtain ⟨S,D,M,e,-⟩:=zz3 h.1 now
 obtain ⟨a1,a2,a3,a4,a5,a6,a7,a8,a9,-⟩:=zqd (zdh (zlw p now) 0 now) 1 now
 obtain ⟨b1,b2,b3,b4,b5,b6,b7,b8,b9,-⟩:=zqd (zlw p now) 0 now
 simp only[a1,a2,a3,a4,a6,a7,a8,a9,b1,b2,b3,b4,b6,b7,b8,b9]
 refine ⟨?_,?_,rfl,rfl,rfl,?_,?_,?_⟩
 all_goals
  unfold zlw
  rw[e]
  rfl
def zauk (on fresh:Bool) (told:List Power) (D:List Int) (l:zgz) (H now:Int) (set told':List Power) (D':List Int) (fresh':Bool) (l':zgz):Prop :=
 (told'=told∧D'=D∧fresh'=fresh∧l'=l∧(on=false∨(zur (fP told) (fP set)=[]∧D=[]∧fresh=false)∨l.Closed=true∨400≤l.Said.length)) ∨
 (told'=set∧D'=[]∧fresh'=false∧on=true∧l.Closed=false∧l.Said.length < 400∧¬ (zur (fP told) (fP set)=[]∧D=[]∧fresh=false)∧zca ⟨1,H,0,0,zur (fP told) (fP set),D⟩=0 ∧
  l'=⟨l.Said++[txt (zl3 ⟨1,H,0,0,zur (fP told) (fP set),D⟩)],l.Due++[now+40],l.Got,l.Closed⟩)
theorem z8u {p:za} {c now:Int} (h:GoodX p) (hc:0≤c∧c < 2) (hH:1≤p.Height∧p.Height≤1099511627776) (hn:0≤now) :
  zauk (p.Links.On.get c) (p.Links.Fresh.get c) (p.Links.Told.get c) (p.Links.Done.get c) (zfn p.Links c) p.Height now p.Set ((zdh p c now).Links.Told.get c) ((zdh p c now).Links.Done.get c) ((zdh p c now).Links.Fresh.get c) (zfn (zdh p c now).Links c):=by
 rcases zak4 h hc hH hn with ⟨e,h1⟩ | ⟨h1,h2,h3,e⟩
 ·rw[e]
  refine .inl ⟨rfl,rfl,rfl,rfl,?_⟩
  rcases h1 with (h1 | h1) | h1 | h1
  ·exact .inl h1
  ·exact .inr (.inl h1)
  ·exact .inr (.inr (.inl h1))
  ·exact .inr (.inr (.inr h1))
 ·rw[e]
  have on:p.Links.On.get c=true:=by
   cases o:p.Links.On.get c with
   | true=>rfl
   | false=>exact absurd (.inl o) h1
  refine .inr ⟨?_,?_,?_,on,h2,h3,fun k=>h1 (.inr k),zahz h.2.2.1 (h.lk hc).done hH,?_⟩
  ·simp only[zx _ _ hc hc,if_pos]
  ·simp only[zx _ _ hc hc,if_pos]
  ·simp only[zx _ _ hc hc,if_pos]
  ·unfold zfn
   simp only[zx _ _ hc hc,if_pos]
   rfl
theorem zah1 {p:za} (hg:zag p=true) (now:Int):(zlw p now).Height=p.Height+1∧(zlw p now).Links.On=p.Links.On∧(zlw p now).Links.Fresh=p.Links.Fresh∧(zlw p now).Links.Told=p.Links.Told∧(∀ c,zfn (zlw p now).Links c=zfn p.Links c):=by
 obtain ⟨S,D,M,e,-⟩:=zz3 hg now
 unfold zlw
 rw[e]
 exact ⟨rfl,rfl,rfl,rfl,fun _=>rfl⟩
theorem z6i {p:za} {now:Int} (h:zag p=true∧p.Time≤now∧now≤1099511627776) {c:Int} (hc:0≤c∧c < 2) :
  ∃ D,D=(zlw p now).Links.Done.get c∧zauk (p.Links.On.get c) (p.Links.Fresh.get c) (p.Links.Told.get c) D (zfn p.Links c) (zjj p now).1.Height now (zjj p now).1.Set ((zjj p now).1.Links.Told.get c) ((zjj p now).1.Links.Done.get c) ((zjj p now).1.Links.Fresh.get c) (zfn (zjj p now).1.Links c):=by
 obtain ⟨hx,hH⟩:=goodPr_iff.1 h.1
 have hn:0≤now:=by have:=hx.2.1.2.1;omega
 have h0:=hx.2.1.1
 have g0:=z8s h.1 h.2
 have g1:=z14 (c:=0) g0 (by omega) hn
 obtain ⟨p1,p2,p3,p4,p5⟩:=zah1 h.1 now
 obtain ⟨a1,a2,a3,a4,a5,a6,a7,a8,a9,-⟩:=zqd (zdh (zlw p now) 0 now) 1 now
 obtain ⟨b1,b2,b3,b4,b5,b6,b7,b8,b9,-⟩:=zqd (zlw p now) 0 now
 refine ⟨_,rfl,?_⟩
 unfold zjj
 rw[if_pos h]
 simp only[]
 rw[a1,a4,b1,b4,← p2,← p3,← p4,← p5 c]
 rcases (show c=0∨c=1 by omega) with rfl | rfl
 ·obtain ⟨t1,t2,t3,t4⟩:=z4b (p:=zdh (zlw p now) 0 now) (c:=1) (j:=0) (now:=now) (by omega) (by omega) (by omega)
  rw[t1,t2,t3,t4]
  exact z8u g0 hc (by omega) hn
 ·obtain ⟨t1,t2,t3,t4⟩:=z4b (p:=zlw p now) (c:=0) (j:=1) (now:=now) (by omega) (by omega) (by omega)
  have:=z8u (c:=1) (now:=now) g1 hc (by rw[b1];omega) hn
  rw[b7,t1,t2,t3,t4,b1,b4] at this
  exact this
theorem zqe {C:zcy} {i j:Int} (hi:0≤i∧i < 2) (hj:0≤j∧j < 2) (c:Consumer):zb (zkf C i c) j=if j=i then c else zb C j:=by
 unfold zb zkf
 simp only[zx _ _ hi hj]
 by_cases e:j=i
 ·simp only[if_pos e]
 ·simp only[if_neg e]
theorem zcx {C:zcy} {i:Int} (hi:0≤i∧i < 2) (c:Consumer):zb (zkf C i c) i=c:=by rw[zqe hi hi,if_pos rfl]
theorem zby {C:zcy} {i j:Int} (hi:0≤i∧i < 2) (hj:0≤j∧j < 2) (h:j≠i) (c:Consumer):zb (zkf C i c) j=zb C j:=by rw[zqe hi hj,if_neg h]
theorem z8v {C:zcy} {i:Int} (hi:0≤i∧i < 2):zkf C i (zb C i)=C:=by
 unfold zb zkf
 simp only[zn1 _ hi]
def zy7 (L:Links) (i:Int) (l:zgz):Links:={ L with Said:=L.Said.set i l.Said,Due:=L.Due.set i l.Due,Got:=L.Got.set i l.Got,Closed:=L.Closed.set i l.Closed }
def zyh (L:Links) (i:Int) (h:Head):Links:={ L with SHeight:=L.SHeight.set i h.Height,STime:=L.STime.set i h.Time,SSaid:=L.SSaid.set i h.Said,SGot:=L.SGot.set i h.Got }
theorem zqf {L:Links} {i j:Int} (hi:0≤i∧i < 2) (hj:0≤j∧j < 2) (l:zgz):zc (zy7 L i l) j=if j=i then { zc L j with Out:=l } else zc L j:=by
 unfold zc zy7
 simp only[zx _ _ hi hj]
 by_cases e:j=i
 ·simp only[if_pos e]
 ·simp only[if_neg e]
theorem z15 {L:Links} {i j:Int} (hi:0≤i∧i < 2) (hj:0≤j∧j < 2) (h:Head):zc (zyh L i h) j=if j=i then { zc L j with Seen:=h } else zc L j:=by
 unfold zc zyh
 simp only[zx _ _ hi hj]
 by_cases e:j=i
 ·simp only[if_pos e]
 ·simp only[if_neg e]
theorem zv1 (L:Links) (i:Int):zfn L i=(zc L i).Out:=rfl
def noW (w:Wld) (e:Int):Wld×Reply:=(w,⟨e,0⟩)
def zah2 (h:zt0) (p:za) (C:zcy):zt0 :=
 { h with PHeight:=⟨p.Height,p.Height⟩,PTime:=⟨p.Time,p.Time⟩,PSaid:=⟨((p.Links.Said.x0.length:Nat):Int),((p.Links.Said.x1.length:Nat):Int)⟩,PGot:=C.Got }
def zaul (h:zt0) (i:Int) (c:Consumer) (got:Int):zt0 :=
 { h with CHeight:=h.CHeight.set i c.Height,CTime:=h.CTime.set i c.Time,CSaid:=h.CSaid.set i ((c.Out.Said.length:Nat):Int),CGot:=h.CGot.set i got }
def zamm (h:zt0) (i:Int):zt0 :=
 ⟨h.PHeight.set i 0,h.PTime.set i 0,h.PSaid.set i 0,h.PGot.set i 0,h.CHeight.set i 0,h.CTime.set i 0,h.CSaid.set i 0,h.CGot.set i 0⟩
def zaa5 (h:zt0) (i:Int):Head:=⟨h.PHeight.get i,h.PTime.get i,h.PSaid.get i,h.PGot.get i⟩
def zak6 (h:zt0) (i:Int):Head:=⟨h.CHeight.get i,h.CTime.get i,h.CSaid.get i,h.CGot.get i⟩
def zkt (w:Wld):Wld×Reply :=
 if (zjj w.p w.clock).2.2≠0 then noW w (zjj w.p w.clock).2.2
 else ({ w with p:=(zjj w.p w.clock).1,heads:=zah2 w.heads (zjj w.p w.clock).1 w.consumers },⟨0,(((zjj w.p w.clock).2.1.length:Nat):Int)⟩)
def zy8 (w:Wld) (i:Int):Wld×Reply :=
 if (zds w.p i).2≠0 then noW w (zds w.p i).2
 else ({ w with p:=(zds w.p i).1,consumers:=zkf w.consumers i (zlf (zds w.p i).1.Set (zds w.p i).1.Height w.clock),heads:=zamm w.heads i },⟨0,(zds w.p i).1.Height⟩)
def ztw (w:Wld) (i:Int):Wld×Reply :=
 if (zxs w.clock (zb w.consumers i)).2≠0 then noW w (zxs w.clock (zb w.consumers i)).2
 else ({ w with consumers:=zkf w.consumers i (zxs w.clock (zb w.consumers i)).1,heads:=zaul w.heads i (zxs w.clock (zb w.consumers i)).1 (w.p.Links.Got.get i) },⟨0,0⟩)
def z4c (w:Wld) (i:Int) (back:Bool):Wld×Reply :=
 if back=true then ({ w with p:={ w.p with Links:=zyh w.p.Links i (zak6 w.heads i) } },⟨0,0⟩)
 else ({ w with consumers:=zkf w.consumers i { zb w.consumers i with Seen:=zaa5 w.heads i } },⟨0,0⟩)
def zah3 (n:Nat):Packet:=⟨3,1,0,i64.wrap (1+(n:Int)),[],[]⟩
def zah4 (l:zgz):ByteArray:=if l.Got < ((l.Said.length:Nat):Int) then l.Said.getD l.Got.toNat .empty else (⟨#[]⟩:ByteArray)
def zjk (l:zgz) (forged:Bool):ByteArray:=if forged=true then (zgi (zah3 (zah4 l).size)).1 else zah4 l
def zdj (w:Wld) (i:Int) (back:Bool):zgz:=if back=true then (zb w.consumers i).Out else (zc w.p.Links i).Out
def z6j (w:Wld) (i:Int) (back:Bool):Int:=if back=true then w.p.Links.SSaid.get i else w.consumers.SSaid.get i
def zlx (w:Wld) (d:Deed):zgz×Int:=zmm (zdj w d.C d.Back) (i64.wrap ((zdj w d.C d.Back).Got+1)) (zjk (zdj w d.C d.Back) d.Forged) (z6j w d.C d.Back) w.clock
def zos (w:Wld) (d:Deed):Wld×Reply :=
  if (zlx w d).2≠0 then noW w (zlx w d).2
  else if d.Back=true then
    (if (zl5 w.p d.C (zjk (zdj w d.C d.Back) d.Forged).data.toList).2≠0 then noW w (zl5 w.p d.C (zjk (zdj w d.C d.Back) d.Forged).data.toList).2
     else ({ w with p:=(zl5 w.p d.C (zjk (zdj w d.C d.Back) d.Forged).data.toList).1,consumers:=zkf w.consumers d.C { zb w.consumers d.C with Out:=(zlx w d).1 } },⟨0,(zlx w d).1.Got⟩))
  else (if (ztf (zb w.consumers d.C) (zjk (zdj w d.C d.Back) d.Forged).data.toList).2≠0 then noW w (ztf (zb w.consumers d.C) (zjk (zdj w d.C d.Back) d.Forged).data.toList).2
     else ({ w with p:={ w.p with Links:=zy7 w.p.Links d.C (zlx w d).1 },consumers:=zkf w.consumers d.C (ztf (zb w.consumers d.C) (zjk (zdj w d.C d.Back) d.Forged).data.toList).1 },⟨0,(zlx w d).1.Got⟩))
def z6k (w:Wld) (d:Deed):zgz×Int:=if d.Back=true then zya (zb w.consumers d.C).Out d.N (w.consumers.STime.get d.C) (w.consumers.SGot.get d.C) else zya (zc w.p.Links d.C).Out d.N (w.p.Links.STime.get d.C) (w.p.Links.SGot.get d.C)
def ztk (w:Wld) (d:Deed):Wld×Reply :=
 if (z6k w d).2≠0 then noW w (z6k w d).2 else ({ w with p:=zrq w.p d.C,consumers:=zkf w.consumers d.C (zvy (zb w.consumers d.C)) },⟨0,0⟩)
def putW (w:Wld) (i:Int) (r:Consumer×Int):Wld×Reply:=if r.2≠0 then noW w r.2 else ({ w with consumers:=zkf w.consumers i r.1 },⟨0,0⟩)
def zot (w:Wld) (d:Deed):Wld×Reply :=
 if d.Kind < 4∨12 < d.Kind then noW w 3 else if d.C < 0∨2≤d.C then noW w 4 else if d.Kind≠4∧w.consumers.On.get d.C=false then noW w 4
 else if d.Kind=4 then zy8 w d.C else if d.Kind=7 then ztw w d.C else if d.Kind=8 then z4c w d.C d.Back else if d.Kind=9 then zos w d else if d.Kind=10 then ztk w d
 else if d.Kind=11 then putW w d.C (z1y (zb w.consumers d.C) d.V w.clock) else if d.Kind=12 then putW w d.C (zpj (zb w.consumers d.C) d.V d.N w.clock) else (w,⟨0,0⟩)
def zpk (w:Wld) (r:za×Int):Wld×Reply:=if r.2≠0 then noW w r.2 else ({ w with p:=r.1 },⟨0,0⟩)
def zac5 (p:za) (v:Int):za×Int:=({ p with Stake:=(zbf p.Stake v 1).1 },(zbf p.Stake v 1).2)
def zaer (w:Wld) (n:Int):Wld×Reply:=if n < 1∨1099511627736 - w.clock < n then noW w 2 else ({ w with clock:=w.clock+n },⟨0,w.clock+n⟩)
def actW (w:Wld) (d:Deed):Wld×Reply :=
 if d.Kind=1 then zpk w (zcu w.p d.D d.V d.N) else if d.Kind=2 then zpk w (zcl w.p d.D d.V d.N w.clock) else if d.Kind=3 then zpk w (zac5 w.p d.V) else if d.Kind=13 then zpk w (zti w.p d.V d.N)
 else if d.Kind=5 then zaer w d.N else if d.Kind=6 then zkt w else zot w d
def zas (w:Wld):Wld:={ w with deeds:=w.deeds+1 }
def doW (w:Wld) (d:Deed):Wld×Reply:=if 600≤w.deeds then noW w 6 else actW (zas w) d
def newW:Wld:=⟨0,z8l,default,default,0⟩
def Pk1 (s:ByteArray):Prop:=∃ q,zca q=0∧q.Kind=1∧s=txt (zl3 q)
def PkB (s:ByteArray):Prop:=∃ q,zca q=0∧q.Kind≠1∧s=txt (zl3 q)
structure ConsW (w:Wld) (i:Int):Prop where
 good:zio (zb w.consumers i)=true
 height:(zb w.consumers i).Height≤w.deeds
 time:(zb w.consumers i).Time≤w.clock
 size:(((zb w.consumers i).Pending.length+(zb w.consumers i).Ripes.length:Nat):Int)≤w.deeds
 on:(zb w.consumers i).On=w.p.Links.On.get i
 gone:(zb w.consumers i).Gone=w.p.Links.Gone.get i
 told:∀ s,s∈(zc w.p.Links i).Out.Said→Pk1 s
 said:∀ s,s∈(zb w.consumers i).Out.Said→PkB s
 fresh:w.p.Links.On.get i=false→w.p.Links.Gone.get i=false→zb w.consumers i=default∧(zc w.p.Links i).Out.Said=[]
structure OkW (w:Wld):Prop where
 d0:0≤w.deeds
 d1:w.deeds≤600
 t0:0≤w.clock
 t1:w.clock≤1099511627736
 p:GoodX w.p
 ph:w.p.Height≤w.deeds
 pt:w.p.Time≤w.clock
 pq:((w.p.Queue.length:Nat):Int)≤w.deeds
 c:∀ i:Int,0≤i∧i < 2→ConsW w i
theorem OkW.pr {w:Wld} (h:OkW w):zag w.p=true:=goodPr_iff.2 ⟨h.p,by have:=h.ph;have:=h.d1;omega⟩
theorem OkW.fit {w:Wld} (h:OkW w):FitPr 140737488351232 w.p:=fitX h.p (by omega) (by have:=h.pq;have:=h.d1;omega)
theorem zapp {c:Consumer} (h:zio c=true) {n:Nat} (hn:n≤1000000) (hs:c.Pending.length+c.Ripes.length≤n):FitC 140737488351232 c:=by
 obtain ⟨g1,g2,g3,g4,g5⟩:=zbq h
 have e1:=zkb g3 (by omega)
 have e2:c.Out.Said.length=c.Out.Due.length:=g2.1
 have e3:c.Out.Said.length≤400:=g2.2.1
 exact ⟨by omega,by omega,by omega,by omega,by omega,fun p hp=>by have:=zxn (z1x g5 p hp).1;omega⟩
theorem ConsW.fit {w:Wld} {i:Int} (h:ConsW w i) (hd:w.deeds≤600):FitC 140737488351232 (zb w.consumers i) :=
 zapp h.good (n:=600) (by omega) (by have:=h.size;omega)
structure SameL (p q:za) (i:Int):Prop where
 on:p.Links.On.get i=q.Links.On.get i
 gone:p.Links.Gone.get i=q.Links.Gone.get i
 said:(zc p.Links i).Out.Said=(zc q.Links i).Out.Said
theorem SameL.refl (p:za) (i:Int):SameL p p i:=⟨rfl,rfl,rfl⟩
theorem SameL.of {p q:za} {i:Int} (h:zc p.Links i=zc q.Links i):SameL p q i:=⟨congrArg Link.On h,congrArg Link.Gone h,by rw[h]⟩
theorem ConsW.more {w w':Wld} {i:Int} (h:ConsW w i) (hc:zb w'.consumers i=zb w.consumers i) (hl:SameL w'.p w.p i) (hd:w.deeds≤w'.deeds) (ht:w.clock≤w'.clock):ConsW w' i:=by
 obtain ⟨e1,e2,e3⟩:=hl
 obtain ⟨a1,a2,a3,a4,a5,a6,a7,a8,a9⟩:=h
 refine ⟨by rw[hc];exact a1,by rw[hc];omega,by rw[hc];omega,by rw[hc];omega,by rw[hc,e1];exact a5,by rw[hc,e2];exact a6,by rw[e3];exact a7,by rw[hc];exact a8,?_⟩
 rw[e1,e2,hc,e3];exact a9
theorem zjl {w:Wld} (h:OkW w) (hd:w.deeds < 600):OkW (zas w) :=
 ⟨by have:=h.d0;show 0≤w.deeds+1;omega,by show w.deeds+1≤600;omega,h.t0,h.t1,h.p,by have:=h.ph;show w.p.Height≤w.deeds+1;omega,h.pt,by have:=h.pq;show ((w.p.Queue.length:Nat):Int)≤w.deeds+1;omega,
  fun i hi=>(h.c i hi).more rfl (.refl _ _) (by show w.deeds≤w.deeds+1;omega) (by exact Int.le_refl _)⟩
theorem zaa6:OkW newW:=by
 have g:GoodX z8l:=(goodPr_iff.1 z39).1
 refine ⟨by decide,by decide,by decide,by decide,g,by decide,by decide,by decide,fun i hi=>?_⟩
 have hc:zb newW.consumers i=default:=by rcases (show i=0∨i=1 by omega) with rfl | rfl<;>rfl
 have hl:zc newW.p.Links i=default:=by rcases (show i=0∨i=1 by omega) with rfl | rfl<;>rfl
 have e1:newW.p.Links.On.get i=false:=congrArg Link.On hl
 have e2:newW.p.Links.Gone.get i=false:=congrArg Link.Gone hl
 refine ⟨by rw[hc];decide,by rw[hc];decide,by rw[hc];decide,by rw[hc];decide,by rw[hc,e1];rfl,by rw[hc,e2];rfl,(by rw[hl];intro s hs;cases hs),(by rw[hc];intro s hs;cases hs),fun _ _=>⟨hc,by rw[hl];rfl⟩⟩
theorem z6l {w:Wld} (h:OkW w) {p:za} (hp:GoodX p) (hH:p.Height=w.p.Height) (hT:p.Time=w.p.Time) (hQ:p.Queue.length=w.p.Queue.length) (hl:∀ i:Int,0≤i∧i < 2→SameL p w.p i):OkW { w with p:=p } :=
 ⟨h.d0,h.d1,h.t0,h.t1,hp,by rw[hH];exact h.ph,by rw[hT];exact h.pt,by rw[hQ];exact h.pq,fun i hi=>(h.c i hi).more rfl (hl i hi) (Int.le_refl _) (Int.le_refl _)⟩
theorem z16 {p:za} (h:GoodX p) {s:Stake} (hs:GoodS s):GoodX { p with Stake:=s }:=⟨hs,h.2.1,h.2.2.1,h.2.2.2.1,h.2.2.2.2.1,h.2.2.2.2.2⟩
theorem z17 {w:Wld} (h:OkW w) {s:Stake} (hs:GoodS s):OkW { w with p:={ w.p with Stake:=s } }:=z6l h (z16 h.p hs) rfl rfl rfl fun _ _=>⟨rfl,rfl,rfl⟩
theorem zxp {w:Wld} (h:OkW w) {r:za×Int} (hr:r.2=0→OkW { w with p:=r.1 }):OkW (zpk w r).1:=by
 unfold zpk
 by_cases e:r.2=0
 ·rw[if_neg (by simpa using e)];exact hr e
 ·rw[if_pos e];exact h
theorem z8w {w:Wld} (h:OkW w) (d v n:Int):OkW (zpk w (zcu w.p d v n)).1:=by
 refine zxp h fun h0=>?_
 unfold zcu at h0 ⊢
 rw[if_pos h.pr] at h0 ⊢
 by_cases e:(za9 w.p.Stake d v n).2=0
 ·rw[if_neg (by simpa using e)];exact z17 h (z6d e)
 ·rw[if_pos e] at h0;exact absurd h0 e
theorem zaa7 {p:za} (h:GoodX p):GoodX { p with Links:=z8m p.Links }:=by
 have hlk:∀ j:Int,0≤j∧j < 2→LkX { p with Links:=z8m p.Links } j:=by
  intro j hj
  obtain ⟨a1,a2,a3,a4,a5,a6⟩:=h.lk hj
  exact ⟨a1,a2,a3,a4,a5,a6⟩
 exact ⟨h.1,h.2.1,h.2.2.1,okLk_iff.2 (hlk 0 (by omega)),okLk_iff.2 (hlk 1 (by omega)),h.2.2.2.2.2⟩
theorem z28 {w:Wld} (h:OkW w) (d v k:Int):OkW (zpk w (zcl w.p d v k w.clock)).1:=by
 refine zxp h fun h0=>?_
 unfold zcl at h0 ⊢
 have ht:zag w.p=true∧0≤w.clock∧w.clock≤1099511627776:=⟨h.pr,h.t0,by have:=h.t1;omega⟩
 rw[if_pos ht] at h0 ⊢
 by_cases e:(za1 w.p.Stake d v k (zzn w.p w.clock)).2=0
 ·rw[if_neg (by simpa using e)]
  have g:=z1u e
  exact z6l h (z16 (zaa7 h.p) g) rfl rfl rfl fun _ _=>⟨rfl,rfl,rfl⟩
 ·rw[if_pos e] at h0;exact absurd h0 e
theorem zaes {w:Wld} (h:OkW w) (v:Int):OkW (zpk w (zac5 w.p v)).1 :=
 zxp h fun _=>z17 h (zro h.p.1 v (.inr (.inl rfl)))
theorem zak7 {w:Wld} (h:OkW w) (v n:Int):OkW (zpk w (zti w.p v n)).1:=by
 refine zxp h fun h0=>?_
 unfold zti at h0 ⊢
 rw[if_neg (by rw[h.pr];simp)] at h0 ⊢
 by_cases h1:0≤v∧v < 6
 ·rw[if_pos h1] at h0 ⊢
  by_cases h2:1≤n∧n≤w.p.Height
  ·rw[if_pos h2] at h0 ⊢
   by_cases h3:w.p.Stake.Validators.Dead.get v=true
   ·rw[if_pos h3] at h0;cases h0
   ·rw[if_neg h3];exact z17 h (zro (zth h.p.1 v n 50) v (.inr (.inr rfl)))
  ·rw[if_neg h2] at h0;cases h0
 ·rw[if_neg h1] at h0;cases h0
theorem zak8 {w:Wld} (h:OkW w) (n:Int):OkW (zaer w n).1:=by
 unfold zaer
 split
 ·exact h
 ·rename_i hn
  have:=h.t0;have:=h.t1;have:=h.pt
  exact ⟨h.d0,h.d1,by show 0≤w.clock+n;omega,by show w.clock+n≤_;omega,h.p,h.ph,by show w.p.Time≤w.clock+n;omega,h.pq,fun i hi=>(h.c i hi).more rfl (.refl _ _) (Int.le_refl _) (by show w.clock≤w.clock+n;omega)⟩
theorem zac6 {M:Int} (hM:0≤M):∀ {l:List Power},(∀ q,q∈l→q.N≤M)→∀ v,zdr l v≤M
 | [],_,v=>by simpa[zdr] using hM
 | q::l,h,v=>by
  simp only[zdr]
  split
  ·exact h q (List.mem_cons_self ..)
  ·exact zac6 hM (fun q hq=>h q (List.mem_cons_of_mem _ hq)) v
theorem zac7 {M:Int}:∀ {d:List Power} {v n:Int},n≤M→(∀ q,q∈d→q.N≤M)→z7y d v n≤M
 | [],v,n,hn,_=>hn
 | q::d,v,n,hn,h=>by
  show z7y d v (if q.V=v then q.N else n)≤M
  refine zac7 ?_ (fun q hq=>h q (List.mem_cons_of_mem _ hq))
  split
  ·exact h q (List.mem_cons_self ..)
  ·exact hn
theorem zak9 {a d:List Power} (ha:zw 1 (-1) a=true) (hd:zw 0 (-1) d=true):zw 1 (-1) (zxd a d)=true :=
 zaky fun v=>zac7 (zac6 (by omega) (fun q hq=>(zmt (by omega) ha (by omega) q hq).2.2.2) _) (fun q hq=>(zmt (by omega) hd (by omega) q hq).2.2.2)
structure zaet (c:Consumer):Prop where
 set:zw 1 (-1) c.Set=true
 ripes:c.Ripes.all zji=true
 id0:0≤c.Id
 id1:c.Id≤1099511627776
theorem zah5 {now:Int} (hn:0≤now∧now≤1099511627776) {c:Consumer} (h:zaet c) {p:Packet} (hp:zl4 p=true):zaet (zmp now c p):=by
 rw[zrn]
 obtain ⟨g1,g2,_⟩:=z1x (l:=[p]) (by simp[hp]) p (by simp)
 have f:=zmu g1
 refine ⟨zak9 h.set f.2.2.2.2.2.2.2.2.1,?_,by show 0≤p.Id;omega,f.2.2.2.1⟩
 show (c.Ripes++[(⟨p.Id,i64.wrap (now+15)⟩:Ripe)]).all zji=true
 rw[List.all_append,h.ripes]
 have:zji (⟨p.Id,i64.wrap (now+15)⟩:Ripe)=true:=by
  unfold zji
  simp only[yy7,decide_eq_true_eq]
  rw[zj (by omega) (by omega)]
  exact ⟨⟨f.2.2.1,f.2.2.2.1⟩,by omega⟩
 simp[this]
theorem z4d {now:Int} (hn:0≤now∧now≤1099511627776):∀ {l:List Packet} {c:Consumer},zaet c→l.all zl4=true→zaet (l.foldl (zmp now) c)
 | [],_,h,_=>h
 | p::l,c,h,hl=>by
  rw[List.all_cons,yy7] at hl
  exact z4d (c:=zmp now c p) hn (zah5 hn h hl.1) hl.2
def matP (r:Ripe):Packet:=⟨2,r.Id,0,0,[],[]⟩
def matT (r:Ripe):ByteArray:=txt (zl3 (matP r))
theorem z18 {r:Ripe} (h:zji r=true):zca (matP r)=0:=by
 unfold zji at h
 simp only[yy7,decide_eq_true_eq] at h
 exact zahl h.1.1 h.1.2
theorem z19 {now:Int} (hn:0≤now∧now≤1099511627776):∀ (rs:List Ripe) (c:Consumer),c.Ripes=rs→zd4 c.Out→rs.all zji=true →
  ∃ k,k≤rs.length∧zop now rs c={ c with Ripes:=rs.drop k,Out:={ c.Out with Said:=c.Out.Said++(rs.take k).map matT,Due:=c.Out.Due++List.replicate k (now+40) } } ∧
   (∀ r,r∈rs.take k→r.Due≤now)∧(k=rs.length∨(∃ r,rs[k]?=some r∧now < r.Due)∨c.Out.Closed=true∨400≤c.Out.Said.length+k)∧c.Out.Said.length+k≤400
 | [],c,hr,hg,_=>⟨0,Nat.le_refl _,by
   show c={ c with Ripes:=[],Out:={ c.Out with Said:=c.Out.Said++[],Due:=c.Out.Due++[] } }
   rw[List.append_nil,List.append_nil,← hr],by simp,.inl rfl,by have:c.Out.Said.length≤400:=hg.2.1;omega⟩
 | r::rs,c,hr,hg,ha=>by
  have h400:c.Out.Said.length≤400:=hg.2.1
  rw[List.all_cons,yy7] at ha
  have hstop:(r.Due≤now→c.Out.Closed=true∨400≤c.Out.Said.length)→zop now (r::rs) c=c→∃ k,k≤(r::rs).length∧zop now (r::rs) c={ c with Ripes:=(r::rs).drop k,Out:={ c.Out with Said:=c.Out.Said++((r::rs).take k).map matT,Due:=c.Out.Due++List.replicate k (now+40) } } ∧
    (∀ q,q∈(r::rs).take k→q.Due≤now)∧(k=(r::rs).length∨(∃ q,(r::rs)[k]?=some q∧now < q.Due)∨c.Out.Closed=true∨400≤c.Out.Said.length+k)∧c.Out.Said.length+k≤400:=by
   intro h1 h2
   refine ⟨0,Nat.zero_le _,by rw[h2];simp[← hr],by simp,?_,by omega⟩
   by_cases hd:r.Due≤now
   ·rcases h1 hd with k | k
    ·exact .inr (.inr (.inl k))
    ·exact .inr (.inr (.inr (by omega)))
   ·exact .inr (.inl ⟨r,rfl,by omega⟩)
  by_cases hd:r.Due≤now
  ·by_cases hc:c.Out.Closed=true∨400≤c.Out.Said.length
   ·refine hstop (fun _=>hc) ?_
    have e0:(zr4 ⟨2,r.Id,0,0,[],[]⟩ now c).1≠0:=by
     intro e
     obtain ⟨_,k,_⟩:=zahk e
     obtain ⟨_,_,k1,k2,_⟩:=zaax k
     rcases hc with hc | hc
     ·rw[hc] at k1;cases k1
     ·omega
    unfold zop
    rw[if_pos hd,if_pos e0]
   ·have hc1:c.Out.Closed=false:=Bool.eq_false_iff.2 (fun h=>hc (.inl h))
    have hc2:c.Out.Said.length < 400:=by have:¬ 400≤c.Out.Said.length:=fun h=>hc (.inr h);omega
    have hw:i64.wrap (now+40)=now+40:=zj (by omega) (by omega)
    have hs:=zakw (p:=matP r) (now:=now) (c:=c) (z18 ha.1) hg (by rw[hw];omega) hc1 hc2
    rw[hw] at hs
    obtain ⟨c',hc'⟩:∃ c':Consumer,c'={ c with Ripes:=rs,Out:={ c.Out with Said:=c.Out.Said++[matT r],Due:=c.Out.Due++[now+40] } }:=⟨_,rfl⟩
    have hstep:zop now (r::rs) c=zop now rs c':=by
     have hs':zr4 ⟨2,r.Id,0,0,[],[]⟩ now c=_:=hs
     rw[zop,if_pos hd,hs',if_neg (by simp),hc']
     rfl
    have hg':zd4 c'.Out:=by rw[hc'];exact z36 hg (by omega) hc2
    obtain ⟨k,k1,k2,k3,k4,k5⟩:=z19 hn rs c' (by rw[hc']) hg' ha.2
    have l1:c'.Out.Said.length=c.Out.Said.length+1:=by rw[hc'];simp
    refine ⟨k+1,by simp only[List.length_cons];omega,?_,?_,?_,by omega⟩
    ·rw[hstep,k2,hc']
     simp only[List.drop_succ_cons,List.take_succ_cons,List.map_cons,List.append_assoc,List.singleton_append,List.replicate_succ]
    ·intro q hq
     rw[List.take_succ_cons] at hq
     rcases List.mem_cons.1 hq with rfl | hq
     ·exact hd
     ·exact k3 q hq
    ·rcases k4 with k4 | k4 | k4 | k4
     ·exact .inl (by simp only[List.length_cons];omega)
     ·exact .inr (.inl (by simpa using k4))
     ·exact .inr (.inr (.inl (by rw[hc'] at k4;exact k4)))
     ·exact .inr (.inr (.inr (by omega)))
  ·exact hstop (fun h=>absurd h hd) (by unfold zop;rw[if_neg hd])
theorem zaeu {l:zgz} (h:zd4 l) {t:List ByteArray} {n u:Int} (hu:0≤u) (hl:l.Said.length+t.length≤400):zd4 { l with Said:=l.Said++t,Due:=l.Due++List.replicate t.length u }:=by
 obtain ⟨g1,g2,g3,g4,g5⟩:=h
 refine ⟨by simp[g1],by simp only[yy6];omega,g3,by simp only[yy6];omega,?_⟩
 simp only[List.any_append,g5,Bool.false_or]
 rw[List.any_eq_false]
 intro x hx
 rw[List.eq_of_mem_replicate hx]
 simp only[decide_eq_true_eq];omega
theorem zyi {now:Int} {c:Consumer} (hg:zio c=true) (ho:c.On=true) (ht:c.Time≤now∧now≤1099511627776) (hh:c.Height+1 < 1099511627776) :
  (zxs now c).2=0∧∃ m k,m=c.Pending.foldl (zmp now) { c with Height:=c.Height+1,Time:=now }∧zaet m∧m.Ripes.length=c.Ripes.length+c.Pending.length∧k≤m.Ripes.length ∧
   (zxs now c).1={ m with Pending:=[],Ripes:=m.Ripes.drop k,Out:={ c.Out with Said:=c.Out.Said++(m.Ripes.take k).map matT,Due:=c.Out.Due++List.replicate k (now+40) } } ∧
   m.On=c.On∧m.Gone=c.Gone∧m.Height=c.Height+1∧m.Time=now∧m.Out=c.Out∧(∀ r,r∈m.Ripes.take k→r.Due≤now) ∧
   (k=m.Ripes.length∨(∃ r,m.Ripes[k]?=some r∧now < r.Due)∨c.Out.Closed=true∨400≤c.Out.Said.length+k)∧c.Out.Said.length+k≤400∧zio (zxs now c).1=true:=by
 obtain ⟨g1,g2,g3,g4,g5⟩:=zbq hg
 have hw:i64.wrap (c.Height+1)=c.Height+1:=zj (by have:=g1.2;omega) (by have:=g1.2;omega)
 have hn0:0≤now:=by have:=g1.2.2.2.1;omega
 have he:=zakx (now:=now) hg ho ht.1 ht.2
 rw[hw] at he
 obtain ⟨m,hm⟩:∃ m,m=c.Pending.foldl (zmp now) { c with Height:=c.Height+1,Time:=now }:=⟨_,rfl⟩
 rw[← hm] at he
 have hpm:zaet m:=by rw[hm];exact z4d ⟨hn0,ht.2⟩ ⟨g3,g4,g1.2.2.2.2.2.1,g1.2.2.2.2.2.2⟩ g5
 obtain ⟨f1,f2,f3,f4,f5,f6⟩:=zus (now:=now) c.Pending { c with Height:=c.Height+1,Time:=now }
 rw[← hm] at f1 f2 f3 f4 f5 f6
 obtain ⟨k,k1,k2,k3,k4,k5⟩:=z19 (now:=now) ⟨hn0,ht.2⟩ m.Ripes { m with Pending:=[] } rfl (by show zd4 m.Out;rw[f2];exact g2) hpm.ripes
 replace f2:m.Out=c.Out:=f2
 simp only[f2] at k4 k5
 have hfin:(zxs now c).1={ m with Pending:=[],Ripes:=m.Ripes.drop k,Out:={ c.Out with Said:=c.Out.Said++(m.Ripes.take k).map matT,Due:=c.Out.Due++List.replicate k (now+40) } }:=by
  rw[he]
  show zop now m.Ripes { m with Pending:=[] }=_
  rw[k2]
  simp only[f2]
 refine ⟨by rw[he],m,k,hm,hpm,f1,k1,hfin,f3,f4,f5,f6,f2,k3,k4,k5,?_⟩
 rw[hfin]
 have hl:((m.Ripes.take k).map matT).length=k:=by rw[List.length_map,List.length_take];omega
 refine zoq ⟨by show (m.On&&m.Gone)=false;rw[f3,f4];exact g1.1,by show 0≤m.Height;rw[f5];show 0≤c.Height+1;have:=g1.2;omega,?_,by show 0≤m.Time;rw[f6];exact hn0,by show m.Time≤_;rw[f6];exact ht.2,hpm.id0,hpm.id1⟩ ?_ hpm.set ?_ rfl
 ·show m.Height < _;rw[f5];show c.Height+1 < _
  exact hh
 ·have:=zaeu (n:=0) g2 (t:=(m.Ripes.take k).map matT) (u:=now+40) (by omega) (by rw[hl];exact k5)
  rw[hl] at this
  exact this
 ·show (m.Ripes.drop k).all zji=true
  rw[List.all_eq_true]
  intro r hr
  exact List.all_eq_true.1 hpm.ripes r (List.mem_of_mem_drop hr)
theorem z2a {w w':Wld} (h:OkW w) (hd:w.deeds < 600) (e1:w'.deeds=w.deeds+1) (e2:w'.clock=w.clock) (p:GoodX w'.p) (ph:w'.p.Height≤w.deeds+1) (pt:w'.p.Time≤w.clock) (pq:((w'.p.Queue.length:Nat):Int)≤w.deeds+1)
  {i:Int} (ci:ConsW w' i) (cj:∀ j:Int,0≤j∧j < 2→j≠i→zb w'.consumers j=zb w.consumers j∧SameL w'.p w.p j):OkW w':=by
 have d0:=h.d0
 refine ⟨by omega,by omega,by rw[e2];exact h.t0,by rw[e2];exact h.t1,p,by omega,by omega,by omega,fun j hj=>?_⟩
 by_cases e:j=i
 ·rw[e];exact ci
 ·obtain ⟨c1,c2⟩:=cj j hj e
  exact (h.c j hj).more c1 c2 (by omega) (by omega)
theorem z6m {w w':Wld} (h:OkW w) (hd:w.deeds < 600) (e1:w'.deeds=w.deeds+1) (e2:w'.clock=w.clock) (e3:w'.p=w.p) {i:Int} (hi:0≤i∧i < 2) {c:Consumer} (hc:w'.consumers=zkf w.consumers i c)
  (good:zio c=true) (height:c.Height≤w.deeds+1) (time:c.Time≤w.clock) (size:((c.Pending.length+c.Ripes.length:Nat):Int)≤w.deeds+1) (on:c.On=(zb w.consumers i).On) (gone:c.Gone=(zb w.consumers i).Gone)
  (said:∀ s,s∈c.Out.Said→PkB s) (ho:(zb w.consumers i).On=true):OkW w':=by
 have hw:=h.c i hi
 have hci:zb w'.consumers i=c:=by rw[hc,zcx hi]
 refine z2a (i:=i) h hd e1 e2 (by rw[e3];exact h.p) (by rw[e3];have:=h.ph;omega) (by rw[e3];exact h.pt) (by rw[e3];have:=h.pq;omega) ?_ fun j hj hji=>⟨by rw[hc,zby hi hj hji],by rw[e3];exact .refl _ _⟩
 have on':w.p.Links.On.get i=true:=by rw[← hw.on];exact ho
 refine ⟨by rw[hci];exact good,by rw[hci,e1];exact height,by rw[hci,e2];exact time,by rw[hci,e1];exact size,by rw[hci,e3,on];exact hw.on,by rw[hci,e3,gone];exact hw.gone,by rw[e3];exact hw.told,by rw[hci];exact said,fun k=>?_⟩
 rw[e3,on'] at k;cases k
theorem zah7 {a b:ByteArray} (h:a.toList=b.toList):a=b:=by
 rw[ByteArray.toList_eq,ByteArray.toList_eq] at h
 obtain ⟨⟨a⟩⟩:=a
 obtain ⟨⟨b⟩⟩:=b
 simp only at h
 rw[h]
theorem zapr {r:Ripe} (h:zji r=true):PkB (matT r):=⟨matP r,z18 h,by unfold matP;simp,rfl⟩
theorem zaa8 {w:Wld} (h:OkW w) (hd:w.deeds < 600) {i:Int} (hi:0≤i∧i < 2) (ho:(zb w.consumers i).On=true):OkW (ztw (zas w) i).1:=by
 have hc:=h.c i hi
 have h1:=h.t1
 have hh:=hc.height
 obtain ⟨e0,m,k,hm,hpm,hl,hk,hf,f1,f2,f3,f4,f5,f6,f7,f8,hg⟩:=zyi hc.good ho ⟨hc.time,by omega⟩ (by omega)
 unfold ztw
 rw[if_neg (by show ¬ (zxs w.clock (zb w.consumers i)).2≠0;rw[e0];simp)]
 refine z6m h hd rfl rfl rfl hi (c:=(zxs w.clock (zb w.consumers i)).1) rfl hg ?_ ?_ ?_ ?_ ?_ ?_ ho
 all_goals rw[hf]
 ·show m.Height≤_;rw[f3];omega
 ·show m.Time≤_;rw[f4];omega
 ·have:=hc.size
  simp only[List.length_nil,List.length_drop]
  omega
 ·exact f1
 ·exact f2
 ·intro s hs
  rcases List.mem_append.1 hs with hs | hs
  ·exact hc.said s hs
  ·obtain ⟨r,hr,rfl⟩:=List.mem_map.1 hs
   exact zapr (List.all_eq_true.1 hpm.ripes r (List.mem_of_mem_take hr))
theorem z2b {c:Consumer} (hg:zio c=true) {q:Packet} (hq:q.Kind≠1) {now:Int} (h:(zr4 q now c).1=0) :
  zca q=0∧0≤i64.wrap (now+40)∧c.Out.Closed=false∧c.Out.Said.length < 400∧(zr4 q now c).2={ c with Out:={ c.Out with Said:=c.Out.Said++[txt (zl3 q)],Due:=c.Out.Due++[i64.wrap (now+40)] } }∧zio (zr4 q now c).2=true:=by
 obtain ⟨k1,k2,k3⟩:=zahk h
 obtain ⟨l1,l2,l3,l4,_⟩:=zaax k2
 obtain ⟨g1,g2,g3,g4,g5⟩:=zbq hg
 refine ⟨k1,l2,l3,l4,by rw[k3],?_⟩
 rw[k3]
 exact zoq g1 (z36 l1 l2 l4) g3 g4 g5
theorem zah8 {w w':Wld} (h:OkW w) (hd:w.deeds < 600) (e1:w'.deeds=w.deeds+1) (e2:w'.clock=w.clock) (e3:w'.p=w.p) {i:Int} (hi:0≤i∧i < 2) (ho:(zb w.consumers i).On=true) {q:Packet} (hq:q.Kind≠1) (hs:(zr4 q w.clock (zb w.consumers i)).1=0) {f:A6 Bool}
  (hc:w'.consumers=zkf w.consumers i { (zr4 q w.clock (zb w.consumers i)).2 with Flags:=f }):OkW w':=by
 have hw:=h.c i hi
 obtain ⟨s1,s2,s3,s4,s5,s6⟩:=z2b hw.good hq hs
 obtain ⟨g1,g2,g3,g4,g5⟩:=zbq s6
 have hz:=hw.size;have hh:=hw.height;have ht:=hw.time
 refine z6m h hd e1 e2 e3 hi hc (zoq g1 g2 g3 g4 g5) ?_ ?_ ?_ ?_ ?_ ?_ ho
 all_goals rw[s5]
 ·show (zb w.consumers i).Height≤_;omega
 ·exact ht
 ·show (((zb w.consumers i).Pending.length+(zb w.consumers i).Ripes.length:Nat):Int)≤_;omega
 ·intro s hs
  rcases List.mem_append.1 hs with hs | hs
  ·exact hw.said s hs
  ·rw[List.mem_singleton.1 hs];exact ⟨q,s1,hq,rfl⟩
theorem zac8 {w:Wld} (h:OkW w) (hd:w.deeds < 600) {i:Int} {r:Consumer×Int} (hr:r.2=0→OkW { zas w with consumers:=zkf w.consumers i r.1 }):OkW (putW (zas w) i r).1:=by
 unfold putW
 by_cases e:r.2=0
 ·rw[if_neg (by simpa using e)];exact hr e
 ·rw[if_pos e];exact zjl h hd
theorem zala {w:Wld} (h:OkW w) (hd:w.deeds < 600) {i:Int} (hi:0≤i∧i < 2) (ho:(zb w.consumers i).On=true) (v:Int):OkW (putW (zas w) i (z1y (zb w.consumers i) v w.clock)).1:=by
 refine zac8 h hd fun h0=>?_
 obtain ⟨_,_,_,_,_,_,_,hs,he⟩:=zacs h0
 rw[he]
 exact zah8 h hd rfl rfl rfl hi ho (by simp) hs rfl
theorem zaev {w:Wld} (h:OkW w) (hd:w.deeds < 600) {i:Int} (hi:0≤i∧i < 2) (ho:(zb w.consumers i).On=true) (v n:Int):OkW (putW (zas w) i (zpj (zb w.consumers i) v n w.clock)).1:=by
 refine zac8 h hd fun h0=>?_
 unfold zpj at h0 ⊢
 by_cases h1:zio (zb w.consumers i)=false∨w.clock < 0∨1099511627776 < w.clock
 ·rw[if_pos h1] at h0;cases h0
 rw[if_neg h1] at h0 ⊢
 by_cases h2:(zb w.consumers i).On=false∨v < 0∨5 < v
 ·rw[if_pos h2] at h0;cases h0
 rw[if_neg h2] at h0 ⊢
 by_cases h3:n < 1∨(zb w.consumers i).Id < n
 ·rw[if_pos h3] at h0;cases h0
 rw[if_neg h3] at h0 ⊢
 exact zah8 h hd rfl rfl rfl hi ho (q:=⟨4,n,v,maxC (zb w.consumers i) v,[],[]⟩) (by simp) h0 (f:=(zr4 ⟨4,n,v,maxC (zb w.consumers i) v,[],[]⟩ w.clock (zb w.consumers i)).2.Flags) rfl
theorem zaew {p:za} (h:GoodX p) {i:Int} (hi:0≤i∧i < 2) {l:zgz} (hl:zd4 l):GoodX { p with Links:=zy7 p.Links i l }:=by
 have hlk:∀ j:Int,0≤j∧j < 2→LkX { p with Links:=zy7 p.Links i l } j:=by
  intro j hj
  obtain ⟨a1,a2,a3,a4,a5,a6⟩:=h.lk hj
  refine ⟨a1,a2,a3,a4,?_,a6⟩
  rw[zv1,zqf hi hj]
  split
  ·exact hl
  ·exact a5
 exact ⟨h.1,h.2.1,h.2.2.1,okLk_iff.2 (hlk 0 (by omega)),okLk_iff.2 (hlk 1 (by omega)),h.2.2.2.2.2⟩
theorem zaex {p:za} (h:GoodX p) (i:Int) (s:Head):GoodX { p with Links:=zyh p.Links i s }:=by
 have hlk:∀ j:Int,0≤j∧j < 2→LkX { p with Links:=zyh p.Links i s } j:=by
  intro j hj
  obtain ⟨a1,a2,a3,a4,a5,a6⟩:=h.lk hj
  exact ⟨a1,a2,a3,a4,a5,a6⟩
 exact ⟨h.1,h.2.1,h.2.2.1,okLk_iff.2 (hlk 0 (by omega)),okLk_iff.2 (hlk 1 (by omega)),h.2.2.2.2.2⟩
theorem zah9 {w:Wld} (h:OkW w) (hd:w.deeds < 600) {i:Int} (hi:0≤i∧i < 2) (ho:(zb w.consumers i).On=true) (back:Bool):OkW (z4c (zas w) i back).1:=by
 unfold z4c
 have hw:=h.c i hi
 cases back with
 | true =>
  rw[if_pos rfl]
  refine z6l (zjl h hd) (zaex h.p i _) rfl rfl rfl fun j hj=>⟨rfl,rfl,?_⟩
  rfl
 | false =>
  rw[if_neg (by simp)]
  obtain ⟨g1,g2,g3,g4,g5⟩:=zbq hw.good
  have hz:=hw.size;have hh:=hw.height
  exact z6m h hd rfl rfl rfl hi rfl (zoq g1 g2 g3 g4 g5) (by show (zb w.consumers i).Height≤_;omega) hw.time (by show (((zb w.consumers i).Pending.length+(zb w.consumers i).Ripes.length:Nat):Int)≤_;omega) rfl rfl hw.said ho
theorem z4e {w:Wld} {d:Deed} (h:(zlx w d).2=0):zd4 (zdj w d.C d.Back)∧(zdj w d.C d.Back).Closed=false∧(zdj w d.C d.Back).Got+1≤((zdj w d.C d.Back).Said.length:Int)∧(zdj w d.C d.Back).Got+1≤z6j w d.C d.Back ∧
  zjk (zdj w d.C d.Back) d.Forged=(zdj w d.C d.Back).Said.getD (zdj w d.C d.Back).Got.toNat .empty∧w.clock < (zdj w d.C d.Back).Due.getD (zdj w d.C d.Back).Got.toNat 0 ∧
  (zlx w d).1={ zdj w d.C d.Back with Got:=(zdj w d.C d.Back).Got+1 }∧zd4 (zlx w d).1:=by
 have hs:(zdj w d.C d.Back).Got+1≤z6j w d.C d.Back:=by
  unfold zlx zmm at h
  by_cases h1:¬ zd4 (zdj w d.C d.Back)
  ·rw[if_pos h1] at h;cases h
  rw[if_neg h1] at h
  have hl:=Classical.not_not.1 h1
  have e4:(zdj w d.C d.Back).Said.length≤400:=hl.2.1
  have hw:i64.wrap ((zdj w d.C d.Back).Got+1)=(zdj w d.C d.Back).Got+1:=zj (by have:=hl.2.2.1;omega) (by have:=hl.2.2.2.1;omega)
  rw[hw] at h
  by_cases h2:(zdj w d.C d.Back).Closed=true
  ·rw[if_pos h2] at h;cases h
  rw[if_neg h2,if_neg (by simp)] at h
  by_cases h3:z6j w d.C d.Back < (zdj w d.C d.Back).Got+1∨((zdj w d.C d.Back).Said.length:Int) < (zdj w d.C d.Back).Got+1∨((zdj w d.C d.Back).Said.getD (zdj w d.C d.Back).Got.toNat .empty).toList≠(zjk (zdj w d.C d.Back) d.Forged).toList
  ·rw[if_pos h3] at h;cases h
  ·simp only[not_or] at h3;omega
 obtain ⟨h1,h2,h3,h4,h5,h6,h7⟩:=zad0 h
 have e4:(zdj w d.C d.Back).Said.length≤400:=h1.2.1
 have hw:i64.wrap ((zdj w d.C d.Back).Got+1)=(zdj w d.C d.Back).Got+1:=zj (by have:=h1.2.2.1;omega) (by have:=h1.2.2.2.1;omega)
 rw[hw] at h4
 have he:(zlx w d).1={ zdj w d.C d.Back with Got:=(zdj w d.C d.Back).Got+1 }:=by
  unfold zlx
  rw[h7,hw]
 refine ⟨h1,Bool.eq_false_iff.2 h2,h4,hs,?_,h6,he,?_⟩
 ·exact (zah7 h5).symm
 ·rw[he]
  obtain ⟨g1,g2,g3,g4,g5⟩:=h1
  exact ⟨g1,g2,by show 0≤(zdj w d.C d.Back).Got+1;omega,h4,g5⟩
theorem z2c {c:Consumer} (hg:zio c=true) {s:List UInt8} (h:(ztf c s).2=0):c.On=true∧zca (zar s).1=0∧(zar s).1.Kind=1∧(zar s).2=0∧(ztf c s).1={ c with Pending:=c.Pending++[(zar s).1] }∧zio (ztf c s).1=true:=by
 unfold ztf at h ⊢
 rw[if_neg (by rw[hg];simp)] at h ⊢
 by_cases h1:c.On=false
 ·rw[if_pos h1] at h;cases h
 rw[if_neg h1] at h ⊢
 by_cases h2:(zar s).2=0
 ·rw[if_neg (by simpa using h2)] at h ⊢
  by_cases h3:(zar s).1.Kind=1
  ·rw[if_neg (by simpa using h3)]
   have gp:=zac3 h2
   refine ⟨by simpa using h1,gp,h3,h2,rfl,?_⟩
   obtain ⟨g1,g2,g3,g4,g5⟩:=zbq hg
   refine zoq g1 g2 g3 g4 ?_
   show (c.Pending++[(zar s).1]).all zl4=true
   rw[List.all_append,g5]
   simp[zl4,gp,h3]
  ·rw[if_pos h3] at h;cases h
 ·rw[if_pos h2] at h;exact absurd h h2
theorem zza {p:za} (hg:zag p=true) {i:Int} {s:List UInt8} (h:(zl5 p i s).2=0):(0≤i∧i < 2)∧p.Links.On.get i=true∧zca (zar s).1=0∧(zar s).1.Kind≠1∧(zar s).2=0∧(zl5 p i s).1={ p with Queue:=p.Queue++[⟨i,(zar s).1⟩] }∧GoodX (zl5 p i s).1:=by
 unfold zl5 at h ⊢
 rw[if_neg (by rw[hg];simp)] at h ⊢
 by_cases h1:(0≤i∧i < 2)∧p.Links.On.get i=true
 ·rw[if_pos h1] at h ⊢
  by_cases h2:(zar s).2=0
  ·rw[if_neg (by simpa using h2)] at h ⊢
   by_cases h3:(zar s).1.Kind=1
   ·rw[if_pos h3] at h;cases h
   ·rw[if_neg h3]
    have gp:=zac3 h2
    have hx:=(goodPr_iff.1 hg).1
    refine ⟨h1.1,h1.2,gp,h3,h2,rfl,hx.1,hx.2.1,hx.2.2.1,hx.2.2.2.1,hx.2.2.2.2.1,?_⟩
    show (p.Queue++[_]).all _=true
    rw[List.all_append,yy7]
    refine ⟨hx.2.2.2.2.2,List.all_eq_true.2 fun b hb=>?_⟩
    rw[List.mem_singleton.1 hb]
    exact ask_iff.2 ⟨h1.1,h1.2,gp,h3⟩
  ·rw[if_pos h2] at h;exact absurd h h2
 ·rw[if_neg h1] at h;cases h
theorem zaa9 {w:Wld} (h:OkW w) (hd:w.deeds < 600) {d:Deed} (hi:0≤d.C∧d.C < 2) (ho:(zb w.consumers d.C).On=true):OkW (zos (zas w) d).1:=by
 have hw:=h.c d.C hi
 unfold zos
 by_cases h0:(zlx w d).2=0
 ·rw[if_neg (by show ¬ (zlx w d).2≠0;simpa using h0)]
  obtain ⟨f1,f2,f3,f4,f5,f6,f7,f8⟩:=z4e h0
  cases hb:d.Back with
  | true =>
   rw[if_pos rfl]
   rw[hb] at f5
   have e0:zdj w d.C true=(zb w.consumers d.C).Out:=rfl
   by_cases h1:(zl5 w.p d.C (zjk (zdj w d.C true) d.Forged).data.toList).2=0
   ·rw[if_neg (by show ¬ (zl5 w.p d.C (zjk (zdj w d.C true) d.Forged).data.toList).2≠0;simpa using h1)]
    obtain ⟨q1,q2,q3,q4,q5,q6,q7⟩:=zza h.pr h1
    obtain ⟨g1,g2,g3,g4,g5⟩:=zbq hw.good
    have hz:=hw.size;have hh:=hw.height;have hp:=h.ph;have hq:=h.pq
    have hr:(zlx w d).1={ (zb w.consumers d.C).Out with Got:=(zb w.consumers d.C).Out.Got+1 }:=by rw[f7,hb];rfl
    have e6:(zl5 (zas w).p d.C (zjk (zdj (zas w) d.C true) d.Forged).data.toList).1={ w.p with Queue:=w.p.Queue++[⟨d.C,(zar (zjk (zdj w d.C true) d.Forged).data.toList).1⟩] }:=q6
    simp only[e6]
    refine z2a (i:=d.C) h hd rfl rfl (by rw[← q6];exact q7) (by show w.p.Height≤_;omega) h.pt (by show (((w.p.Queue++[_]).length:Nat):Int)≤_;rw[yy6,yy5];omega) ?_ fun j hj hji=>⟨zby hi hj hji _,rfl,rfl,rfl⟩
    have hci:zb (zkf (zas w).consumers d.C { zb (zas w).consumers d.C with Out:=(zlx (zas w) d).1 }) d.C={ zb w.consumers d.C with Out:=(zlx w d).1 }:=zcx hi _
    refine ⟨?_,?_,?_,?_,?_,?_,hw.told,?_,fun k=>?_⟩
    ·rw[hci];exact zoq g1 f8 g3 g4 g5
    ·rw[hci];show (zb w.consumers d.C).Height≤w.deeds+1;omega
    ·rw[hci];exact hw.time
    ·rw[hci];show (((zb w.consumers d.C).Pending.length+(zb w.consumers d.C).Ripes.length:Nat):Int)≤w.deeds+1;omega
    ·rw[hci];exact hw.on
    ·rw[hci];exact hw.gone
    ·rw[hci];show ∀ s,s∈(zlx w d).1.Said→PkB s;rw[hr];exact hw.said
    ·have k':w.p.Links.On.get d.C=false:=k
     rw[q2] at k';cases k'
   ·rw[if_pos (by exact h1)];exact zjl h hd
  | false =>
   rw[if_neg (by simp)]
   rw[hb] at f5
   by_cases h1:(ztf (zb w.consumers d.C) (zjk (zdj w d.C false) d.Forged).data.toList).2=0
   ·rw[if_neg (by show ¬ (ztf (zb w.consumers d.C) (zjk (zdj w d.C false) d.Forged).data.toList).2≠0;simpa using h1)]
    obtain ⟨q1,q2,q3,q4,q5,q6⟩:=z2c hw.good h1
    have hz:=hw.size;have hh:=hw.height;have hp:=h.ph;have hq:=h.pq
    have hr:(zlx w d).1={ (zc w.p.Links d.C).Out with Got:=(zc w.p.Links d.C).Out.Got+1 }:=by rw[f7,hb];rfl
    have on':w.p.Links.On.get d.C=true:=by rw[← hw.on];exact ho
    refine z2a (i:=d.C) h hd rfl rfl (zaew h.p hi f8) (by show w.p.Height≤_;omega) h.pt (by show ((w.p.Queue.length:Nat):Int)≤_;omega) ?_ fun j hj hji=>⟨zby hi hj hji _,rfl,rfl,?_⟩
    ·have hci:zb (zkf (zas w).consumers d.C (ztf (zb (zas w).consumers d.C) (zjk (zdj (zas w) d.C false) d.Forged).data.toList).1) d.C=(ztf (zb w.consumers d.C) (zjk (zdj w d.C false) d.Forged).data.toList).1:=zcx hi _
     refine ⟨?_,?_,?_,?_,?_,?_,?_,?_,fun k=>?_⟩
     ·rw[hci];exact q6
     ·rw[hci,q5];show (zb w.consumers d.C).Height≤w.deeds+1;omega
     ·rw[hci,q5];exact hw.time
     ·rw[hci,q5]
      show ((((zb w.consumers d.C).Pending++[_]).length+(zb w.consumers d.C).Ripes.length:Nat):Int)≤w.deeds+1
      rw[yy6,yy5];omega
     ·rw[hci,q5];exact hw.on
     ·rw[hci,q5];exact hw.gone
     ·show ∀ s,s∈(zc (zy7 w.p.Links d.C (zlx w d).1) d.C).Out.Said→Pk1 s
      rw[zqf hi hi,if_pos rfl,hr];exact hw.told
     ·rw[hci,q5];exact hw.said
     ·have k':w.p.Links.On.get d.C=false:=k
      rw[on'] at k';cases k'
    ·show (zc (zy7 w.p.Links d.C (zlx w d).1) j).Out.Said=_
     rw[zqf hi hj,if_neg hji]
   ·rw[if_pos (by exact h1)];exact zjl h hd
 ·rw[if_pos (by exact h0)];exact zjl h hd
theorem zaba {w:Wld} (h:OkW w) (hd:w.deeds < 600):OkW (zkt (zas w)).1:=by
 have ht:zag w.p=true∧w.p.Time≤w.clock∧w.clock≤1099511627776:=⟨h.pr,h.pt,by have:=h.t1;omega⟩
 unfold zkt
 rw[if_neg (by show ¬ (zjj w.p w.clock).2.2≠0;rw[zah0 ht];simp)]
 obtain ⟨r1,r2,r3,r4,r5,r6,r7,r8⟩:=zxo ht
 obtain ⟨S,D,M,e,hS,hdn,hl,hm⟩:=zz3 ht.1 w.clock
 have hg:=zak5 ht.1 ht.2
 have hp:=h.ph;have hq:=h.pq;have d0:=h.d0
 refine ⟨by show 0≤w.deeds+1;omega,by show w.deeds+1≤600;omega,h.t0,h.t1,hg,by show (zjj w.p w.clock).1.Height≤w.deeds+1;rw[r1];omega,by show (zjj w.p w.clock).1.Time≤w.clock;rw[r2];exact Int.le_refl _,by show (((zjj w.p w.clock).1.Queue.length:Nat):Int)≤w.deeds+1;rw[r5];omega,fun i hi=>?_⟩
 obtain ⟨D',-,hD⟩:=z6i ht hi
 have hw:=h.c i hi
 have hz:=hw.size;have hh:=hw.height
 have o1:(zjj w.p w.clock).1.Links.On.get i=w.p.Links.On.get i:=by rw[r6]
 have o2:(zjj w.p w.clock).1.Links.Gone.get i=w.p.Links.Gone.get i:=by rw[r7]
 refine ⟨hw.good,by show (zb w.consumers i).Height≤w.deeds+1;omega,hw.time,by show (((zb w.consumers i).Pending.length+(zb w.consumers i).Ripes.length:Nat):Int)≤w.deeds+1;omega,hw.on.trans o1.symm,hw.gone.trans o2.symm,?_,hw.said,?_⟩
 ·show ∀ s,s∈(zc (zjj w.p w.clock).1.Links i).Out.Said→Pk1 s
  rw[← zv1]
  rcases hD with ⟨-,-,-,e4,-⟩ | ⟨-,-,-,-,-,-,-,e8,e9⟩
  ·rw[e4];exact hw.told
  ·rw[e9]
   intro s hs
   rcases List.mem_append.1 hs with hs | hs
   ·exact hw.told s hs
   ·rw[List.mem_singleton.1 hs];exact ⟨_,e8,rfl,rfl⟩
 ·intro k1 k2
  have k1':w.p.Links.On.get i=false:=o1.symm.trans k1
  obtain ⟨c1,c2⟩:=hw.fresh k1' (o2.symm.trans k2)
  refine ⟨c1,?_⟩
  show (zc (zjj w.p w.clock).1.Links i).Out.Said=[]
  rw[← zv1]
  rcases hD with ⟨-,-,-,e4,-⟩ | ⟨-,-,-,e4,-⟩
  ·rw[e4];exact c2
  ·rw[k1'] at e4;cases e4
theorem zlg {L:Links} {i j H:Int} {T:List Power} {f:Bool} (hi:0≤i∧i < 2) (hj:0≤j∧j < 2):zc (zgy L i H T f) j=if j=i then ⟨true,false,H,T,f,[],⟨[],[],0,false⟩,⟨0,0,0,0⟩⟩ else zc L j:=by
 unfold zc zgy
 simp only[zx _ _ hi hj]
 by_cases e:j=i
 ·simp only[if_pos e]
 ·simp only[if_neg e]
theorem zv2 {p:za} {i:Int} (h:(zds p i).2=0):zag p=true∧(0≤i∧i < 2)∧p.Links.Gone.get i=false∧p.Links.On.get i=false∧1≤p.Height∧p.Set.length≠0∧(zds p i).1=zl6 p i (p.Stake.Waits.map (zdc i p.Height)) (ztj p):=by
 unfold zds at h ⊢
 cases hg:zag p with
 | false=>rw[if_pos hg] at h;cases h
 | true =>
  rw[if_neg (by rw[hg];simp)] at h
  rw[if_neg (by simp)]
  by_cases hi:0≤i∧i < 2
  ·rw[if_pos hi] at h ⊢
   by_cases h1:p.Links.Gone.get i=true
   ·rw[if_pos h1] at h;cases h
   rw[if_neg h1] at h ⊢
   by_cases h2:p.Links.On.get i=true
   ·rw[if_pos h2] at h;cases h
   rw[if_neg h2] at h ⊢
   by_cases h3:p.Height < 1∨p.Set.length=0
   ·rw[if_pos h3] at h;cases h
   rw[if_neg h3]
   simp only[not_or] at h3
   exact ⟨rfl,hi,Bool.eq_false_iff.2 h1,Bool.eq_false_iff.2 h2,by omega,h3.2,rfl⟩
  ·rw[if_neg hi] at h;cases h
theorem zaey {p:za} (hx:GoodX p) {i:Int} (hi:0≤i∧i < 2) (ho:p.Links.On.get i=false):GoodX (zl6 p i (p.Stake.Waits.map (zdc i p.Height)) (ztj p)):=by
 obtain ⟨b1,b2,b3,b4,b5,b6,b7⟩:=hx.1
 have hf:∀ w,(zdc i p.Height w).Number=w.Number∧(zdc i p.Height w).D=w.D∧(zdc i p.Height w).V=w.V∧(zdc i p.Height w).Amount=w.Amount∧(zdc i p.Height w).Height=w.Height∧(zdc i p.Height w).Due=w.Due:=by
  intro w;unfold zdc;split<;>exact ⟨rfl,rfl,rfl,rfl,rfl,rfl⟩
 have gs:GoodS { p.Stake with Waits:=p.Stake.Waits.map (zdc i p.Height) }:=by
  refine ⟨b1,⟨b2.1,b2.2.1,by show (p.Stake.Waits.map _).length≤60;rw[List.length_map];exact b2.2.2⟩,b3,zts (fun w hw=>⟨(hf w).1,(hf w).2.1,(hf w).2.2.1,by rw[(hf w).2.2.2.1];exact hw,(hf w).2.2.2.2.1,(hf w).2.2.2.2.2⟩) b4,b5,?_,b7⟩
  show zpl (p.Stake.Waits.map _)=_
  rw[z6e (fun w=>(hf w).2.2.2.1)];exact b6
 have hlk:∀ j:Int,0≤j∧j < 2→LkX (zl6 p i (p.Stake.Waits.map (zdc i p.Height)) (ztj p)) j:=by
  intro j hj
  obtain ⟨a1,a2,a3,a4,a5,a6⟩:=hx.lk hj
  have el:=zlg (L:=p.Links) (H:=p.Height) (T:=p.Set) (f:=ztj p) hi hj
  by_cases e:j=i
  ·rw[if_pos e] at el
   have z:=hx.2.1.1
   exact ⟨by show ¬ ((zc (zgy p.Links i p.Height p.Set (ztj p)) j).On=true∧(zc (zgy p.Links i p.Height p.Set (ztj p)) j).Gone=true);rw[el];simp,by show 0≤(zc (zgy p.Links i p.Height p.Set (ztj p)) j).Base;rw[el];exact z,
    by show (zc (zgy p.Links i p.Height p.Set (ztj p)) j).Base≤p.Height;rw[el];exact Int.le_refl _,by show zw 1 (-1) (zc (zgy p.Links i p.Height p.Set (ztj p)) j).Told=true;rw[el];exact hx.2.2.1,
    by show zd4 (zc (zgy p.Links i p.Height p.Set (ztj p)) j).Out;rw[el];exact z1z,by show zal (-1) (zc (zgy p.Links i p.Height p.Set (ztj p)) j).Done=true;rw[el];rfl⟩
  ·rw[if_neg e] at el
   exact ⟨by show ¬ ((zc (zgy p.Links i p.Height p.Set (ztj p)) j).On=true∧(zc (zgy p.Links i p.Height p.Set (ztj p)) j).Gone=true);rw[el];exact a1,by show 0≤(zc (zgy p.Links i p.Height p.Set (ztj p)) j).Base;rw[el];exact a2,
    by show (zc (zgy p.Links i p.Height p.Set (ztj p)) j).Base≤p.Height;rw[el];exact a3,by show zw 1 (-1) (zc (zgy p.Links i p.Height p.Set (ztj p)) j).Told=true;rw[el];exact a4,
    by show zd4 (zc (zgy p.Links i p.Height p.Set (ztj p)) j).Out;rw[el];exact a5,by show zal (-1) (zc (zgy p.Links i p.Height p.Set (ztj p)) j).Done=true;rw[el];exact a6⟩
 refine ⟨gs,hx.2.1,hx.2.2.1,okLk_iff.2 (hlk 0 (by omega)),okLk_iff.2 (hlk 1 (by omega)),List.all_eq_true.2 fun b hb=>ask_iff.2 ?_⟩
 obtain ⟨q1,q2,q3,q4⟩:=hx.ask hb
 refine ⟨q1,?_,q3,q4⟩
 show (p.Links.On.set i true).get b.C=true
 rw[zx _ _ hi q1]
 split
 ·rfl
 ·exact q2
theorem zaia {w:Wld} (h:OkW w) (hd:w.deeds < 600) (i:Int):OkW (zy8 (zas w) i).1:=by
 unfold zy8
 by_cases h0:(zds w.p i).2=0
 ·rw[if_neg (by show ¬ (zds w.p i).2≠0;simpa using h0)]
  obtain ⟨f1,hi,f3,f4,f5,f6,f7⟩:=zv2 h0
  have hgb:=zaey h.p hi f4
  have hp:=h.ph;have hq:=h.pq;have d0:=h.d0;have d1:=h.d1
  have e6:(zds (zas w).p i).1=zl6 w.p i (w.p.Stake.Waits.map (zdc i w.p.Height)) (ztj w.p):=f7
  simp only[e6]
  refine z2a (i:=i) h hd rfl rfl hgb (by show w.p.Height≤_;omega) h.pt (by show ((w.p.Queue.length:Nat):Int)≤_;omega) ?_ fun j hj hji=>⟨zby hi hj hji _,.of ?_⟩
  ·have hci:zb (zkf (zas w).consumers i (zlf w.p.Set w.p.Height w.clock)) i=zlf w.p.Set w.p.Height w.clock:=zcx hi _
   have el:=zlg (L:=w.p.Links) (H:=w.p.Height) (T:=w.p.Set) (f:=ztj w.p) hi hi
   rw[if_pos rfl] at el
   have t0:=h.t0;have t1:=h.t1;have z:=h.p.2.1.1
   refine ⟨?_,?_,?_,?_,?_,?_,?_,?_,fun k=>?_⟩
   ·show zio (zb (zkf (zas w).consumers i (zlf w.p.Set w.p.Height w.clock)) i)=true
    rw[hci]
    exact zoq ⟨rfl,by show (0:Int)≤0;omega,by show (0:Int) < _;omega,t0,by show w.clock≤_;omega,z,by show w.p.Height≤_;omega⟩ z1z h.p.2.2.1 rfl rfl
   ·show (zb (zkf (zas w).consumers i (zlf w.p.Set w.p.Height w.clock)) i).Height≤w.deeds+1
    rw[hci];show (0:Int)≤_;omega
   ·show (zb (zkf (zas w).consumers i (zlf w.p.Set w.p.Height w.clock)) i).Time≤w.clock
    rw[hci];exact Int.le_refl _
   ·show (((zb (zkf (zas w).consumers i (zlf w.p.Set w.p.Height w.clock)) i).Pending.length+(zb (zkf (zas w).consumers i (zlf w.p.Set w.p.Height w.clock)) i).Ripes.length:Nat):Int)≤w.deeds+1
    rw[hci];show ((0:Nat):Int)≤_;omega
   ·show (zb (zkf (zas w).consumers i (zlf w.p.Set w.p.Height w.clock)) i).On=(zc (zgy w.p.Links i w.p.Height w.p.Set (ztj w.p)) i).On
    rw[hci,el];rfl
   ·show (zb (zkf (zas w).consumers i (zlf w.p.Set w.p.Height w.clock)) i).Gone=(zc (zgy w.p.Links i w.p.Height w.p.Set (ztj w.p)) i).Gone
    rw[hci,el];rfl
   ·show ∀ s,s∈(zc (zgy w.p.Links i w.p.Height w.p.Set (ztj w.p)) i).Out.Said→Pk1 s
    rw[el];intro s hs;cases hs
   ·show ∀ s,s∈(zb (zkf (zas w).consumers i (zlf w.p.Set w.p.Height w.clock)) i).Out.Said→PkB s
    rw[hci];intro s hs;cases hs
   ·have k':(zc (zgy w.p.Links i w.p.Height w.p.Set (ztj w.p)) i).On=false:=k
    rw[el] at k';cases k'
  ·show zc (zgy w.p.Links i w.p.Height w.p.Set (ztj w.p)) j=_
   rw[zlg hi hj,if_neg hji]
 ·rw[if_pos (by exact h0)];exact zjl h hd
theorem zku {L:Links} {i j:Int} (hi:0≤i∧i < 2) (hj:0≤j∧j < 2):zc (ztv L i) j=if j=i then { zc L j with On:=false,Gone:=true,Fresh:=false,Done:=[],Out:={ (zc L j).Out with Closed:=true } } else zc L j:=by
 unfold zc ztv
 simp only[zx _ _ hi hj]
 by_cases e:j=i
 ·simp only[if_pos e]
 ·simp only[if_neg e]
theorem z8x {w:Wld} (h:OkW w) {i:Int} (hi:0≤i∧i < 2) (ho:(zb w.consumers i).On=true):zrq w.p i=zrp w.p i∧zvy (zb w.consumers i)={ zb w.consumers i with On:=false,Gone:=true,Out:={ (zb w.consumers i).Out with Closed:=true } }:=by
 have on':w.p.Links.On.get i=true:=by rw[← (h.c i hi).on];exact ho
 exact ⟨by unfold zrq;rw[if_pos ⟨h.pr,hi,on'⟩],by unfold zvy;rw[if_neg (by rw[ho];simp)]⟩
theorem zaez {w:Wld} (h:OkW w) (hd:w.deeds < 600) {d:Deed} (hi:0≤d.C∧d.C < 2) (ho:(zb w.consumers d.C).On=true):OkW (ztk (zas w) d).1:=by
 unfold ztk
 by_cases h0:(z6k w d).2=0
 ·rw[if_neg (by show ¬ (z6k w d).2≠0;simpa using h0)]
  obtain ⟨f1,f2⟩:=z8x h hi ho
  have hw:=h.c d.C hi
  have e1:zrq (zas w).p d.C=zrp w.p d.C:=f1
  have e2:zvy (zb (zas w).consumers d.C)={ zb w.consumers d.C with On:=false,Gone:=true,Out:={ (zb w.consumers d.C).Out with Closed:=true } }:=f2
  simp only[e1,e2]
  obtain ⟨g1,g2,g3,g4,g5⟩:=zbq hw.good
  have hz:=hw.size;have hh:=hw.height;have hp:=h.ph;have hq:=h.pq
  have hqf:(w.p.Queue.filter (zzo d.C)).length≤w.p.Queue.length:=List.length_filter_le _ _
  have el:=zku (L:=w.p.Links) hi hi
  rw[if_pos rfl] at el
  refine z2a (i:=d.C) h hd rfl rfl (goodPr_iff.1 (z8t h.pr hi)).1 (by show w.p.Height≤_;omega) h.pt (by show (((w.p.Queue.filter (zzo d.C)).length:Nat):Int)≤_;omega) ?_ fun j hj hji=>⟨zby hi hj hji _,.of ?_⟩
  ·have hci:=zcx (C:=(zas w).consumers) hi { zb w.consumers d.C with On:=false,Gone:=true,Out:={ (zb w.consumers d.C).Out with Closed:=true } }
   refine ⟨?_,?_,?_,?_,?_,?_,?_,?_,fun k k2=>?_⟩
   ·rw[hci];exact zoq ⟨rfl,g1.2⟩ g2 g3 g4 g5
   ·rw[hci];show (zb w.consumers d.C).Height≤w.deeds+1;omega
   ·rw[hci];exact hw.time
   ·rw[hci];show (((zb w.consumers d.C).Pending.length+(zb w.consumers d.C).Ripes.length:Nat):Int)≤w.deeds+1;omega
   ·rw[hci];exact (congrArg Link.On el).symm
   ·rw[hci];exact (congrArg Link.Gone el).symm
   ·show ∀ s,s∈(zc (ztv w.p.Links d.C) d.C).Out.Said→Pk1 s
    rw[el];exact hw.told
   ·rw[hci];exact hw.said
   ·have k':(zc (ztv w.p.Links d.C) d.C).Gone=false:=k2
    rw[el] at k';cases k'
  ·show zc (ztv w.p.Links d.C) j=_
   rw[zku hi hj,if_neg hji]
 ·rw[if_pos (by exact h0)];exact zjl h hd
theorem zabb {w:Wld} (h:OkW w) (hd:w.deeds < 600) (d:Deed):OkW (zot (zas w) d).1:=by
 have hm:=zjl h hd
 unfold zot
 by_cases c1:d.Kind < 4∨12 < d.Kind
 ·rw[if_pos c1];exact hm
 rw[if_neg c1]
 by_cases c2:d.C < 0∨2≤d.C
 ·rw[if_pos c2];exact hm
 rw[if_neg c2]
 have hi:0≤d.C∧d.C < 2:=by omega
 by_cases c3:d.Kind≠4∧(zas w).consumers.On.get d.C=false
 ·rw[if_pos c3];exact hm
 rw[if_neg c3]
 by_cases c4:d.Kind=4
 ·rw[if_pos c4];exact zaia h hd _
 rw[if_neg c4]
 have ho:(zb w.consumers d.C).On=true:=by
  cases e:(zb w.consumers d.C).On with
  | true=>rfl
  | false=>exact absurd ⟨c4,e⟩ c3
 repeat' split
 ·exact zaa8 h hd hi ho
 ·exact zah9 h hd hi ho _
 ·exact zaa9 h hd hi ho
 ·exact zaez h hd hi ho
 ·exact zala h hd hi ho _
 ·exact zaev h hd hi ho _ _
 ·exact hm
theorem zaps {w:Wld} (h:OkW w) (hd:w.deeds < 600) (d:Deed):OkW (actW (zas w) d).1:=by
 have hm:=zjl h hd
 unfold actW
 repeat' split
 ·exact z8w hm _ _ _
 ·exact z28 hm _ _ _
 ·exact zaes hm _
 ·exact zak7 hm _ _
 ·exact zak8 hm _
 ·exact zaba h hd
 ·exact zabb h hd d
theorem z8y {w:Wld} (h:OkW w) (d:Deed):OkW (doW w d).1:=by
 unfold doW
 split
 ·exact h
 ·rename_i hd;exact zaps h (by omega) d
theorem zaib:zoo=some newW:=by
 rw[zoo,zvs,Tr.rb zaeh,Tr.rl];rfl
theorem zalb (w:Wld):zg5 w=some (w.clock,w):=by rw[zg5,zia,Tr.rl]
theorem ztx {l:List Power} (h:l.length*16≤140737488355328):zbo l=some l:=by
 rw[zbo,zpf,Tr.rg (by rw[zbd];omega),Tr.rl]
theorem zyj {l:List Int} (h:l.length*8≤140737488355328):zbw l=some l:=by
 rw[zbw,znu,Tr.rg (by rw[znz];omega),Tr.rl]
theorem z8z {p:Packet} (h1:p.Set.length*16≤140737488355328) (h2:p.Done.length*8≤140737488355328):zev p=some p:=by
 rw[zev,zpg,ztx h1,zyj h2,Tr.rg (by rfl),Tr.rg (by rfl),Tr.rl];rfl
theorem z4f {l:zgz} (h1:l.Said.length*16≤140737488355328) (h2:l.Due.length*8≤140737488355328):zbc l=some l:=by
 rw[zbc,znv,zyj h2,Tr.rg (by show (0+l.Said.length)*16≤_;omega),Tr.rg (by rfl),Tr.rl];rfl
theorem z80 {w:Wld} (hf:FitPr 140737488351232 w.p):zc2 w=some (w.p,w):=by
 have hw:=hf.waits;have hs:=hf.set;have hq:=hf.queue
 have turn:∀ (c:Nat),c < 2→∀ z,(zao (c:Int) w z w.p).run=some (.inl (((c+1:Nat):Int),w,z,w.p)):=by
  intro c hc z
  have e1:=ztx (l:=w.p.Links.Told.get c) (by have:=hf.told c;omega)
  have e2:=zyj (l:=w.p.Links.Done.get c) (by have:=hf.done c;omega)
  have e3:=z4f (l:=(zc w.p.Links c).Out) (by have:=hf.said c;show (w.p.Links.Said.get c).length*16≤_;omega) (by have:=hf.due c;show (w.p.Links.Due.get c).length*8≤_;omega)
  simp only[zao]
  rw[Tr.rt (by simp;omega),Tr.rg ⟨by omega,by omega⟩,e1,e2,e3,Tr.rg (by rfl),Tr.rg (by rfl),Tr.rg (by rfl),Tr.rl,zv (by omega)]
  simp only[yy2]
  have hb:0≤(c:Int)∧(c:Int) < 2:=by omega
  unfold zc
  simp only[zn1 _ hb]
 have l1:∀ z,zdo 0 w z w.p=some (w,z,w.p):=by
  intro z
  rw[zdo,zcj (s':=(((1:Nat):Int),w,z,w.p)) (turn 0 (by omega) z),zcj (s':=(((2:Nat):Int),w,z,w.p)) (turn 1 (by omega) z),zew (by
   show (zao 2 w z w.p).run=_
   simp only[zao]
   rw[Tr.rf (by simp),Tr.rl])]
 have l2:∀ z q,zdp w.p.Queue w.p.Queue.length 0 w z q []=some (w,z,q,w.p.Queue):=by
  intro z q
  rw[zdp]
  have:=zms (F:=fun s:(List Asked)×Int×Int×Wld×za×za×(List Asked)=>(za7 s.1 s.2.1 s.2.2.1 s.2.2.2.1 s.2.2.2.2.1 s.2.2.2.2.2.1 s.2.2.2.2.2.2).run) w.p.Queue.length (fun i t=>(w.p.Queue,(w.p.Queue.length:Int),(i:Int),w,z,q,t)) (fun i t=>t=w.p.Queue.take i) (fun _ _=>(w,z,q,w.p.Queue)) ?_ ?_ 0 [] (Nat.zero_le _) rfl
  ·exact this
  ·rintro t rfl
   simp only[za7];rw[Tr.rf (by simp),Tr.rl,List.take_length]
  ·rintro i t hi ht
   obtain ⟨p1,p2⟩:=hf.ps _ (zdg (l:=w.p.Queue) (k:=i) hi default)
   have htl:t.length≤i:=by rw[ht,List.length_take];omega
   refine .inl ⟨t++[w.p.Queue.getD i default],?_,by rw[ht,zke hi default],by trivial⟩
   simp only[za7,yy4]
   rw[Tr.rt (by simpa using hi),Tr.rg ⟨by omega,by rw[ze3];omega⟩,z8z (by omega) (by omega),Tr.rg (by rfl),Tr.rg (by simp only[ze3,yy5];omega),Tr.rl,zv (by omega)]
   rfl
 rw[zc2,zfr,Tr.rg (by rw[zbx];omega),Tr.rb (ztx (by omega)),Tr.rb (v:=(w,default,w.p)) (by exact l1 default)]
 simp only[]
 rw[Tr.rb (v:=(w,default,w.p,w.p.Queue)) (by exact l2 default w.p),Tr.rl]
theorem z81 {w:Wld} {i:Int} (hf:(0≤i∧i < 2)→FitC 140737488351232 (zb w.consumers i)):zay i w=some (if 0≤i∧i < 2 then zb w.consumers i else default,w):=by
 rw[zay,zfs]
 by_cases hi:0≤i∧i < 2
 ·have hf:=hf hi
  have e1:=ztx (l:=w.consumers.Set.get i) (by have:(w.consumers.Set.get i).length*16≤_:=hf.set;omega)
  have e3:=z4f (l:=(zb w.consumers i).Out) (by have:=hf.said;omega) (by have:=hf.due;omega)
  have hr:(w.consumers.Ripes.get i).length*16≤140737488351232:=hf.ripes
  have hp:(w.consumers.Pending.get i).length*80≤140737488351232:=hf.pend
  have l1:∀ z q,zdq (w.consumers.Pending.get i) (w.consumers.Pending.get i).length 0 w z q []=some (w,z,q,w.consumers.Pending.get i):=by
   intro z q
   have hps:∀ p,p∈w.consumers.Pending.get i→p.Set.length*16≤140737488351232∧p.Done.length*8≤140737488351232:=hf.ps
   generalize w.consumers.Pending.get i=l at *
   rw[zdq]
   have:=zms (F:=fun s:(List Packet)×Int×Int×Wld×Consumer×Consumer×(List Packet)=>(za8 s.1 s.2.1 s.2.2.1 s.2.2.2.1 s.2.2.2.2.1 s.2.2.2.2.2.1 s.2.2.2.2.2.2).run) l.length (fun i t=>(l,(l.length:Int),(i:Int),w,z,q,t)) (fun i t=>t=l.take i) (fun _ _=>(w,z,q,l)) ?_ ?_ 0 [] (Nat.zero_le _) rfl
   ·exact this
   ·rintro t rfl
    simp only[za8];rw[Tr.rf (by simp),Tr.rl,List.take_length]
   ·rintro k t hk ht
    obtain ⟨p1,p2⟩:=hps _ (zdg (l:=l) (k:=k) hk default)
    have htl:t.length≤k:=by rw[ht,List.length_take];omega
    refine .inl ⟨t++[l.getD k default],?_,by rw[ht,zke hk default],by trivial⟩
    simp only[za8,yy4]
    rw[Tr.rt (by simpa using hk),Tr.rg ⟨by omega,by rw[zfq];omega⟩,Tr.rb (z8z (by omega) (by omega)),Tr.rg (by simp only[zfq,yy5];omega),Tr.rl,zv (by omega)]
  rw[if_pos hi,Tr.rf (by simp;omega),Tr.rg hi,e1,e3,Tr.rg (by rfl),Tr.rg (by rfl),Tr.rg (by rw[zlb];omega)]
  simp only[yy2]
  rw[Tr.rb (v:=(w,default,zb w.consumers i,w.consumers.Pending.get i)) (by exact l1 default _),Tr.rl]
  rfl
 ·rw[if_neg hi,Tr.rt (by simp;omega),Tr.rl]
theorem zae0 {w:Wld} (h:OkW w) {i:Int} (hi:0≤i∧i < 2) (b:Bool):(zah4 (zdj w i b)).size≤71:=by
  have hw:=h.c i hi
  unfold zah4
  split
  · rename_i hg
    have hmem:(zdj w i b).Said.getD (zdj w i b).Got.toNat .empty∈(zdj w i b).Said:=by
      by_cases h0:(zdj w i b).Got.toNat < (zdj w i b).Said.length
      · exact zdg h0 _
      · exact absurd hg (by
          cases b with
          | true =>
                    have:0≤(zb w.consumers i).Out.Got:=(zbq hw.good).2.1.2.2.1
                    show ¬ (zb w.consumers i).Out.Got < _
                    have h0':¬ (zb w.consumers i).Out.Got.toNat < (zb w.consumers i).Out.Said.length:=h0
                    show ¬ (zb w.consumers i).Out.Got < (((zb w.consumers i).Out.Said.length:Nat):Int)
                    omega
          | false =>
                     have:0≤(zc w.p.Links i).Out.Got:=(h.p.lk hi).line.2.2.1
                     have h0':¬ (zc w.p.Links i).Out.Got.toNat < (zc w.p.Links i).Out.Said.length:=h0
                     show ¬ (zc w.p.Links i).Out.Got < (((zc w.p.Links i).Out.Said.length:Nat):Int)
                     omega)
    generalize (zdj w i b).Said.getD (zdj w i b).Got.toNat .empty=s at hmem
    have:∃ q,zca q=0∧s=txt (zl3 q):=by
      cases b with
      | true=>obtain ⟨q,q1,_,q2⟩:=hw.said s hmem;exact ⟨q,q1,q2⟩
      | false=>obtain ⟨q,q1,_,q2⟩:=hw.told s hmem;exact ⟨q,q1,q2⟩
    obtain ⟨q,q1,rfl⟩:=this
    have:=zxn q1
    rw[zxf,zri];omega
  · decide
theorem zaic {n:Nat} (h:n≤1000):zca (zah3 n)=0:=by
 have hw:i64.wrap (1+(n:Int))=1+n:=zj (by omega) (by omega)
 unfold zca zah3
 rw[hw]
 simp only[]
 rw[if_neg (by omega),if_neg (by omega),if_neg (by simp),if_neg (by simp[zw]),if_neg (by simp[zal])]
theorem zapt {w:Wld} (h:OkW w) {i:Int} (hi:0≤i∧i < 2) (b f:Bool):zml (zdj w i b) f=some (zjk (zdj w i b) f)∧(zjk (zdj w i b) f).size≤71:=by
 have hz:=zae0 h hi b
 have hg0:0≤(zdj w i b).Got:=by
  cases b with
  | true=>exact (zbq (h.c i hi).good).2.1.2.2.1
  | false=>exact (h.p.lk hi).line.2.2.1
 have hE:∀ n:Nat,za5 (⟨3,1,0,i64.wrap (1+(n:Int)),[],[]⟩:Packet)=some (zgi (zah3 n)):=fun n=>z1k (by simp) (by simp)
 generalize zdj w i b=l at *
 have hsz:(zjk l f).size≤71:=by
  unfold zjk
  cases f with
  | true=>rw[if_pos rfl,zlc (zaic (by omega)),zxf,zri];simp[zah3]
  | false=>rw[if_neg (by simp)];exact hz
 refine ⟨?_,hsz⟩
 rw[zml,zs4]
 unfold zjk
 unfold zah4 at hz ⊢
 by_cases hl:l.Got < ((l.Said.length:Nat):Int)
 ·rw[if_pos hl,Tr.rt (by simpa using hl),Tr.rg ⟨hg0,by show l.Got < ((l.Said.length:Nat):Int);exact hl⟩]
  cases f with
  | true=>rw[Tr.rf (by rfl),if_pos rfl,Tr.rb (hE _),Tr.rl]
  | false=>rw[Tr.rt (by rfl),if_neg (by simp),Tr.rl]
 ·rw[if_neg hl,Tr.rf (by simpa using hl)]
  cases f with
  | true=>rw[Tr.rf (by rfl),if_pos rfl,Tr.rb (hE _),Tr.rl]
  | false=>rw[Tr.rt (by rfl),if_neg (by simp),Tr.rl]
theorem zae1 {w:Wld} (hf:FitPr 140737488351232 w.p):zfu w=some ((zkt w).2,(zkt w).1):=by
 rw[zfu,zgd,zaej hf,Tr.rg (by rfl)]
 simp only[yy2]
 unfold zkt
 by_cases h0:(zjj w.p w.clock).2.2=0
 ·rw[Tr.rf (by simpa using h0),if_neg (by simpa using h0)]
  have turn:∀ (c:Nat),c < 2→∀ (u:Wld) l z (p:za),(zav l (c:Int) u z p).run=some (.inl (l,((c+1:Nat):Int),{ u with heads:={ u.heads with PHeight:=u.heads.PHeight.set c p.Height,PTime:=u.heads.PTime.set c p.Time,PSaid:=u.heads.PSaid.set c (((p.Links.Said.get c).length:Nat):Int),PGot:=u.heads.PGot.set c (u.consumers.Got.get c) } },z,p)):=by
   intro c hc u l z p
   simp only[zav]
   rw[Tr.rt (by simp;omega),Tr.rg ⟨by omega,by omega⟩,Tr.rg ⟨by omega,by omega⟩,Tr.rg ⟨by omega,by omega⟩,Tr.rg ⟨by omega,by omega⟩,Tr.rl,zv (by omega)]
  have loop:∀ l z,zec l 0 { w with p:=(zjj w.p w.clock).1 } z (zjj w.p w.clock).1=some (l,{ w with p:=(zjj w.p w.clock).1,heads:=zah2 w.heads (zjj w.p w.clock).1 w.consumers },z):=by
   intro l z
   generalize (zjj w.p w.clock).1=p
   rw[zec,zcj (turn 0 (by omega) _ _ _ _),zcj (turn 1 (by omega) _ _ _ _),zew (by
    show (zav _ 2 _ _ _).run=_
    simp only[zav]
    rw[Tr.rf (by simp),Tr.rl])]
   rfl
  rw[Tr.rb (v:=((zjj w.p w.clock).2.1,{ w with p:=(zjj w.p w.clock).1,heads:=zah2 w.heads (zjj w.p w.clock).1 w.consumers },⟨0,0⟩)) (by exact loop _ _),Tr.rl]
 ·rw[Tr.rt (by simpa using h0),if_pos h0,Tr.rl];rfl
theorem zabc {C:zcy} {i:Int} (hi:0≤i∧i < 2) (l:zgz):({ C with Said:=C.Said.set i l.Said,Due:=C.Due.set i l.Due,Got:=C.Got.set i l.Got,Closed:=C.Closed.set i l.Closed }:zcy)=zkf C i { zb C i with Out:=l }:=by
 unfold zkf zb
 simp only[zn1 _ hi]
theorem zae2 {w:Wld} (h:OkW w) {d:Deed} (hi:0≤d.C∧d.C < 2):zfv d w=some ((zos w d).2,(zos w d).1):=by
 rw[zfv,zge,Tr.rg hi,Tr.rg hi]
 obtain ⟨t1,t2⟩:=zapt h hi d.Back d.Forged
 unfold zos zlx
 cases hb:d.Back with
 | true =>
  rw[hb] at t1 t2
  have e0:(zb w.consumers d.C).Out=zdj w d.C true:=rfl
  have e1:w.consumers.Got.get d.C=(zdj w d.C true).Got:=rfl
  rw[Tr.rt rfl,e0,Tr.rb t1,e1,z3u,Tr.rg (by rfl)]
  simp only[yy2]
  have es:z6j w d.C true=w.p.Links.SSaid.get d.C:=rfl
  rw[← es]
  by_cases h0:(zmm (zdj w d.C true) (i64.wrap ((zdj w d.C true).Got+1)) (zjk (zdj w d.C true) d.Forged) (z6j w d.C true) w.clock).2=0
  ·rw[Tr.rf (by simpa using h0),if_neg (by simpa using h0),Tr.rt rfl,if_pos trivial,zaa3 h.fit (by omega),Tr.rg (by rfl)]
   simp only[yy2]
   by_cases h1:(zl5 w.p d.C (zjk (zdj w d.C true) d.Forged).data.toList).2=0
   ·rw[Tr.rf (by simpa using h1),if_neg (by simpa using h1),Tr.rl,zabc hi]
   ·rw[Tr.rt (by simpa using h1),if_pos h1,Tr.rl];rfl
  ·rw[Tr.rt (by simpa using h0),if_pos h0,Tr.rl];rfl
 | false =>
  rw[hb] at t1 t2
  have e0:(zc w.p.Links d.C).Out=zdj w d.C false:=rfl
  have e1:w.p.Links.Got.get d.C=(zdj w d.C false).Got:=rfl
  rw[Tr.rf rfl,e0,Tr.rb t1,e1,z3u,Tr.rg (by rfl)]
  simp only[yy2]
  have es:z6j w d.C false=w.consumers.SSaid.get d.C:=rfl
  rw[← es]
  by_cases h0:(zmm (zdj w d.C false) (i64.wrap ((zdj w d.C false).Got+1)) (zjk (zdj w d.C false) d.Forged) (z6j w d.C false) w.clock).2=0
  ·rw[Tr.rf (by simpa using h0),if_neg (by simpa using h0),Tr.rf rfl,if_neg (by simp),Tr.rb (zaph ((h.c d.C hi).fit h.d1) (by omega))]
   by_cases h1:(ztf (zb w.consumers d.C) (zjk (zdj w d.C false) d.Forged).data.toList).2=0
   ·rw[Tr.rf (by simpa using h1),if_neg (by simpa using h1),Tr.rl];rfl
   ·rw[Tr.rt (by simpa using h1),if_pos h1,Tr.rl];rfl
  ·rw[Tr.rt (by simpa using h0),if_pos h0,Tr.rl];rfl
theorem zaid {w:Wld} (h:OkW w) {d:Deed} (hi:0≤d.C∧d.C < 2):zgf d w=some ((ztk w d).2,(ztk w d).1):=by
 rw[zgf,zg6,Tr.rg hi,Tr.rg hi]
 have hr:=z6h h.fit (c:=d.C)
 unfold ztk z6k
 cases hb:d.Back with
 | true =>
  rw[Tr.rt rfl,if_pos rfl,Tr.rb (z70 _ _ _ _)]
  by_cases h0:(zya (zb w.consumers d.C).Out d.N (w.consumers.STime.get d.C) (w.consumers.SGot.get d.C)).2=0
  ·rw[Tr.rf (by simpa using h0),if_neg (by simpa using h0),hr,Tr.rg (by rfl),Tr.rb z8h,Tr.rl];rfl
  ·rw[Tr.rt (by simpa using h0),if_pos h0,Tr.rl];rfl
 | false =>
  rw[Tr.rf rfl,if_neg (show ¬ (false=true) by simp),Tr.rb (z70 _ _ _ _)]
  by_cases h0:(zya (zc w.p.Links d.C).Out d.N (w.p.Links.STime.get d.C) (w.p.Links.SGot.get d.C)).2=0
  ·rw[Tr.rf (by simpa using h0),if_neg (by simpa using h0),hr,Tr.rg (by rfl),Tr.rb z8h,Tr.rl];rfl
  ·rw[Tr.rt (by simpa using h0),if_pos h0,Tr.rl];rfl
theorem zae3 {w:Wld} (h:OkW w) {d:Deed}:zfw d w=some ((zot w d).2,(zot w d).1):=by
 rw[zfw,zgg]
 unfold zot
 by_cases c1:d.Kind < 4∨12 < d.Kind
 ·rw[if_pos c1,Tr.rt (by simpa using c1),Tr.rl];rfl
 rw[if_neg c1,Tr.rf (by simp;omega)]
 by_cases c2:d.C < 0∨2≤d.C
 ·rw[if_pos c2,Tr.rt (by simpa using c2),Tr.rl];rfl
 have hi:0≤d.C∧d.C < 2:=by omega
 have hw:=h.c d.C hi
 have hfc:=hw.fit h.d1
 rw[if_neg c2,Tr.rf (by simp;omega),Tr.rg hi]
 by_cases c3:d.Kind≠4∧w.consumers.On.get d.C=false
 ·rw[if_pos c3,Tr.rt (by simpa using c3),Tr.rl];rfl
 rw[if_neg c3,Tr.rf (by
  rw[Bool.eq_false_iff];intro k;apply c3;simpa using k)]
 by_cases c4:d.Kind=4
 ·rw[if_pos c4,Tr.rt (by simpa using c4),z8q h.fit,Tr.rg (by rfl)]
  simp only[yy2]
  unfold zy8
  by_cases h0:(zds w.p d.C).2=0
  ·obtain ⟨f1,_,f3,f4,f5,f6,f7⟩:=zv2 h0
   have hs:(zds w.p d.C).1.Set.length*16≤140737488355328:=by rw[f7];have:=h.fit.set;show w.p.Set.length*16≤_;omega
   rw[Tr.rf (by simpa using h0),if_neg (by simpa using h0),zakt hs,Tr.rg (by rfl),Tr.rg hi,Tr.rl]
   rfl
  ·rw[Tr.rt (by simpa using h0),if_pos h0,Tr.rl];rfl
 rw[if_neg c4,Tr.rf (by simpa using c4)]
 have hsz:=hw.size;have hd1:=h.d1
 by_cases c7:d.Kind=7
 ·have he:zu (zb w.consumers d.C) w.clock=some (zxs w.clock (zb w.consumers d.C)):=zaue hfc (by omega)
  rw[if_pos c7,Tr.rt (by simpa using c7),he,Tr.rg (by rfl)]
  simp only[yy2]
  unfold ztw
  by_cases h0:(zxs w.clock (zb w.consumers d.C)).2=0
  ·rw[Tr.rt (by simpa using h0),Tr.rg hi,Tr.rg hi,Tr.rg (by omega),Tr.rf (by simpa using h0),if_neg (by simpa using h0),Tr.rl];rfl
  ·rw[Tr.rf (by simpa using h0),Tr.rt (by simpa using h0),if_pos h0,Tr.rl];rfl
 rw[if_neg c7,Tr.rf (by simpa using c7)]
 by_cases c8:d.Kind=8
 ·rw[if_pos c8,Tr.rt (by simpa using c8)]
  unfold z4c
  cases hb:d.Back with
  | true =>
   rw[Tr.rt rfl,if_pos rfl,Tr.rg hi,Tr.rg (by omega),Tr.rg hi,Tr.rf rfl,Tr.rl,z8v hi];rfl
  | false =>
   rw[Tr.rf rfl,if_neg (show ¬ (false=true) by simp),Tr.rg hi,Tr.rg (by omega),Tr.rf rfl,Tr.rl];rfl
 rw[if_neg c8,Tr.rf (by simpa using c8)]
 by_cases c9:d.Kind=9
 ·rw[if_pos c9,Tr.rt (by simpa using c9),Tr.rb (zae2 h hi),Tr.rl]
 rw[if_neg c9,Tr.rf (by simpa using c9)]
 by_cases c10:d.Kind=10
 ·rw[if_pos c10,Tr.rt (by simpa using c10),Tr.rb (zaid h hi),Tr.rl]
 rw[if_neg c10,Tr.rf (by simpa using c10)]
 by_cases c11:d.Kind=11
 ·rw[if_pos c11,Tr.rt (by simpa using c11),zapi hfc,Tr.rg (by rfl)]
  simp only[yy2]
  unfold putW
  by_cases h0:(z1y (zb w.consumers d.C) d.V w.clock).2=0
  ·rw[Tr.rf (by simpa using h0),if_neg (by simpa using h0),Tr.rl]
  ·rw[Tr.rt (by simpa using h0),if_pos h0,Tr.rl];rfl
 rw[if_neg c11,Tr.rf (by simpa using c11)]
 by_cases c12:d.Kind=12
 ·rw[if_pos c12,Tr.rt (by simpa using c12),zahj hfc,Tr.rg (by rfl)]
  simp only[yy2]
  unfold putW
  by_cases h0:(zpj (zb w.consumers d.C) d.V d.N w.clock).2=0
  ·rw[Tr.rf (by simpa using h0),if_neg (by simpa using h0),Tr.rl]
  ·rw[Tr.rt (by simpa using h0),if_pos h0,Tr.rl];rfl
 rw[if_neg c12,Tr.rf (by simpa using c12),Tr.rf rfl,Tr.rl,z8v hi]
theorem zaie {w:Wld} (h:OkW w) {d:Deed} (hn:d.N≤9223372036854775807):zb8 d w=some ((doW w d).2,(doW w d).1):=by
 rw[zb8,zlu]
 unfold doW
 by_cases c0:600≤w.deeds
 ·rw[if_pos c0,Tr.rt (by simpa using c0),Tr.rl];rfl
 have hd:w.deeds < 600:=by omega
 have hd0:=h.d0
 have hw:i64.wrap (w.deeds+1)=w.deeds+1:=zj (by omega) (by omega)
 have hm:=zjl h hd
 rw[if_neg c0,Tr.rf (by simpa using c0),hw]
 have e0:({ w with deeds:=w.deeds+1 }:Wld)=zas w:=rfl
 unfold actW
 by_cases c1:d.Kind=1
 ·rw[if_pos c1,Tr.rt (by simpa using c1),Tr.rb (z10 h.fit hn)]
  unfold zpk
  by_cases h0:(zcu w.p d.D d.V d.N).2=0
  ·rw[Tr.rf (by simpa using h0),if_neg (by show ¬ (zcu w.p d.D d.V d.N).2≠0;simpa using h0),Tr.rl];rfl
  ·rw[Tr.rt (by simpa using h0),if_pos (by exact h0),Tr.rl];rfl
 rw[if_neg c1,Tr.rf (by simpa using c1)]
 by_cases c2:d.Kind=2
 ·rw[if_pos c2,Tr.rt (by simpa using c2),zyg h.fit hn,Tr.rg (by rfl)]
  simp only[yy2]
  unfold zpk
  by_cases h0:(zcl w.p d.D d.V d.N w.clock).2=0
  ·rw[Tr.rf (by simpa using h0),if_neg (by show ¬ (zcl w.p d.D d.V d.N w.clock).2≠0;simpa using h0),Tr.rl];rfl
  ·rw[Tr.rt (by simpa using h0),if_pos (by exact h0),Tr.rl];rfl
 rw[if_neg c2,Tr.rf (by simpa using c2)]
 by_cases c3:d.Kind=3
 ·rw[if_pos c3,Tr.rt (by simpa using c3),Tr.rb zag6]
  unfold zpk
  by_cases h0:(zbf w.p.Stake d.V 1).2=0
  ·rw[Tr.rf (by simpa using h0),if_neg (by show ¬ (zbf w.p.Stake d.V 1).2≠0;simpa using h0),Tr.rl];rfl
  ·rw[Tr.rt (by simpa using h0),if_pos (by exact h0),Tr.rl];rfl
 rw[if_neg c3,Tr.rf (by simpa using c3)]
 by_cases c13:d.Kind=13
 ·rw[if_pos c13,Tr.rt (by simpa using c13),Tr.rb (z12 h.fit)]
  unfold zpk
  by_cases h0:(zti w.p d.V d.N).2=0
  ·rw[Tr.rf (by simpa using h0),if_neg (by show ¬ (zti w.p d.V d.N).2≠0;simpa using h0),Tr.rl];rfl
  ·rw[Tr.rt (by simpa using h0),if_pos (by exact h0),Tr.rl];rfl
 rw[if_neg c13,Tr.rf (by simpa using c13)]
 by_cases c5:d.Kind=5
 ·rw[if_pos c5,Tr.rt (by simpa using c5)]
  have t0:=h.t0;have t1:=h.t1
  have h1:i64.wrap (1099511627736 - w.clock)=1099511627736 - w.clock:=zj (by omega) (by omega)
  rw[h1]
  unfold zaer
  by_cases h0:d.N < 1∨1099511627736 - w.clock < d.N
  ·rw[Tr.rt (by simpa using h0),if_pos (by exact h0),Tr.rl];rfl
  ·have h2:i64.wrap (w.clock+d.N)=w.clock+d.N:=zj (by omega) (by omega)
   rw[Tr.rf (by simp;omega),if_neg (by exact h0),Tr.rl,h2];rfl
 rw[if_neg c5,Tr.rf (by simpa using c5)]
 by_cases c6:d.Kind=6
 ·rw[if_pos c6,Tr.rt (by simpa using c6),e0,Tr.rb (zae1 hm.fit),Tr.rl]
 rw[if_neg c6,Tr.rf (by simpa using c6),e0,Tr.rb (zae3 hm),Tr.rl]
def stk7:Stake:=⟨⟨⟨99300,100000,100000,100000⟩,700,0,0⟩,{ zaub with Tokens:=⟨700,0,0,0,0,0⟩,Shares:=⟨700,0,0,0,0,0⟩ },⟨⟨700,0,0,0,0,0⟩,⟨0,0,0,0,0,0⟩,⟨0,0,0,0,0,0⟩,⟨0,0,0,0,0,0⟩⟩,[],1⟩
theorem zaif:GoodS stk7:=by decide
theorem z82:za9 newS 0 0 700=(stk7,0):=by
 have h:ze1 newS 0 0=0:=by
  unfold ze1
  rw[if_neg (by simpa using zahd),if_neg (by omega)]
 unfold za9
 rw[if_neg (by simpa using h),if_neg (by decide),if_neg (by omega),if_neg (by decide),if_neg (by decide),if_neg (by decide),if_neg (by decide)]
 rfl
theorem zaig:setS stk7=[⟨0,7⟩]:=by rfl
def p7:za:={ z8l with Stake:=stk7 }
def p8:za:=⟨1,5,stk7,[⟨0,7⟩],default,z8k (newM 0 0) (allP []) 5,[]⟩
theorem zapu:zag p7=true:=by decide
theorem zapv:zag p8=true:=by decide
theorem zabd:zcu z8l 0 0 700=(p7,0):=by
 unfold zcu
 rw[if_pos z39]
 show (if (za9 newS 0 0 700).2≠0 then _ else (({ z8l with Stake:=(za9 newS 0 0 700).1 }:za),(0:Int)))=_
 rw[z82];rfl
theorem zaum:zjj p7 5=(p8,[],0):=by
 have hpay:z3z stk7 5=(stk7,[],0):=by unfold z3z;rw[if_neg (by simpa using zaif)];rfl
 unfold zjj
 rw[if_pos ⟨zapu,by decide,by decide⟩]
 have hp:zlw p7 5=p8:=by
  unfold zlw
  show ({ zor p7 5 with Stake:=(z3z stk7 5).1,Set:=setS (z3z stk7 5).1,Queue:=[] }:za)=_
  rw[hpay,zaig];rfl
 rw[hp,zac2 (p:=p8) (c:=0) rfl,zac2 (p:=p8) (c:=1) rfl]
 show (p8,(z3z stk7 5).2.1,(0:Int))=_
 rw[hpay]
def w1:Wld:=⟨0,p7,default,default,1⟩
def w2:Wld:=⟨5,p7,default,default,2⟩
def w3:Wld:=⟨5,p8,default,zah2 default p8 default,3⟩
theorem do_1:doW newW ⟨1,0,0,0,700,false,false⟩=(w1,⟨0,0⟩):=by
 show zpk (zas newW) (zcu z8l 0 0 700)=_
 rw[zabd];rfl
theorem do_2:doW w1 ⟨5,0,0,0,5,false,false⟩=(w2,⟨0,5⟩):=by rfl
theorem do_3:doW w2 ⟨6,0,0,0,0,false,false⟩=(w3,⟨0,0⟩):=by
 show zkt (zas w2)=_
 unfold zkt
 have e:zjj (zas w2).p (zas w2).clock=(p8,[],0):=zaum
 rw[e];rfl
theorem do_4:(doW w3 ⟨4,0,0,0,0,false,false⟩).2.N=1∧(doW w3 ⟨4,0,0,0,0,false,false⟩).1.clock=5∧(zb (doW w3 ⟨4,0,0,0,0,false,false⟩).1.consumers 0).Set=[⟨0,7⟩]:=by
 have hb:zds p8 0=(zl6 p8 0 (p8.Stake.Waits.map (zdc 0 p8.Height)) (ztj p8),0):=by
  unfold zds
  rw[if_neg (by rw[zapv];simp),if_pos (by omega),if_neg (by decide),if_neg (by decide),if_neg (by decide)]
 have e:doW w3 ⟨4,0,0,0,0,false,false⟩=zy8 (zas w3) 0:=rfl
 rw[e]
 unfold zy8
 have e2:zds (zas w3).p 0=(zl6 p8 0 (p8.Stake.Waits.map (zdc 0 p8.Height)) (ztj p8),0):=hb
 rw[e2]
 exact ⟨rfl,rfl,rfl⟩
theorem okW1:OkW w1:=by have:=z8y zaa6 ⟨1,0,0,0,700,false,false⟩;rw[do_1] at this;exact this
theorem okW2:OkW w2:=by have:=z8y okW1 ⟨5,0,0,0,5,false,false⟩;rw[do_2] at this;exact this
theorem okW3:OkW w3:=by have:=z8y okW2 ⟨6,0,0,0,0,false,false⟩;rw[do_3] at this;exact this
theorem okW4:OkW (doW w3 ⟨4,0,0,0,0,false,false⟩).1:=z8y okW3 _
structure Alike (w w':Wld):Prop where
 p:w'.p=w.p
 c:w'.consumers=w.consumers
 t:w'.clock=w.clock
theorem Alike.refl (w:Wld):Alike w w:=⟨rfl,rfl,rfl⟩
theorem Alike.more (w:Wld):Alike w (zas w):=⟨rfl,rfl,rfl⟩
def z83 (w:Wld) (s:Stake):Wld:={ zas w with p:={ w.p with Stake:=s } }
def zamn (w:Wld) (s:Stake):Wld:={ zas w with p:={ w.p with Stake:=s,Links:=z8m w.p.Links } }
def za0b (w:Wld) (n:Int):Wld:={ zas w with clock:=w.clock+n }
def zlh (w:Wld):Wld:={ zas w with p:=(zjj w.p w.clock).1,heads:=zah2 w.heads (zjj w.p w.clock).1 w.consumers }
def zabe (w:Wld) (i:Int):Wld:={ zas w with p:=zl6 w.p i (w.p.Stake.Waits.map (zdc i w.p.Height)) (ztj w.p),consumers:=zkf w.consumers i (zlf w.p.Set w.p.Height w.clock),heads:=zamm w.heads i }
def zabf (w:Wld) (i:Int) (c:Consumer):Wld:={ zas w with consumers:=zkf w.consumers i c }
def zae4 (w:Wld) (i:Int):Wld:={ zas w with p:={ w.p with Links:=zyh w.p.Links i (zak6 w.heads i) } }
def zt8 (w:Wld) (i:Int):Wld:={ zabf w i (zxs w.clock (zb w.consumers i)).1 with heads:=zaul w.heads i (zxs w.clock (zb w.consumers i)).1 (w.p.Links.Got.get i) }
def gotB (w:Wld) (i:Int) (q:Packet):Wld:={ zabf w i { zb w.consumers i with Out:={ (zb w.consumers i).Out with Got:=(zb w.consumers i).Out.Got+1 } } with p:={ w.p with Queue:=w.p.Queue++[⟨i,q⟩] } }
def gotF (w:Wld) (i:Int) (q:Packet):Wld:={ zabf w i { zb w.consumers i with Pending:=(zb w.consumers i).Pending++[q] } with p:={ w.p with Links:=zy7 w.p.Links i { (zc w.p.Links i).Out with Got:=(zc w.p.Links i).Out.Got+1 } } }
def zae5 (w:Wld) (i:Int):Wld:={ zabf w i { zb w.consumers i with On:=false,Gone:=true,Out:={ (zb w.consumers i).Out with Closed:=true } } with p:=zrp w.p i }
def zaun (w:Wld) (i:Int) (q:Packet) (f:A6 Bool):Consumer:={ zb w.consumers i with Out:={ (zb w.consumers i).Out with Said:=(zb w.consumers i).Out.Said++[txt (zl3 q)],Due:=(zb w.consumers i).Out.Due++[w.clock+40] },Flags:=f }
structure zapw (w:Wld) (i:Int) (b:Bool) (q:Packet):Prop where
 good:zd4 (zdj w i b)
 opened:(zdj w i b).Closed=false
 got:(zdj w i b).Got.toNat < (zdj w i b).Said.length
 seen:(zdj w i b).Got+1≤z6j w i b
 text:(zdj w i b).Said.getD (zdj w i b).Got.toNat .empty=txt (zl3 q)
 time:w.clock < (zdj w i b).Due.getD (zdj w i b).Got.toNat 0
 pk:zca q=0
theorem z6n {w:Wld} (h:OkW w) (hd:w.deeds < 600) (d:Deed) {P:Wld→Reply→Prop}
  (hno:∀ w' r,Alike w w'→r.Code≠0→P w' r)
  (hdel:d.Kind=1→(za9 w.p.Stake d.D d.V d.N).2=0→P (z83 w (za9 w.p.Stake d.D d.V d.N).1) ⟨0,0⟩)
  (hund:d.Kind=2→(za1 w.p.Stake d.D d.V d.N (zzn w.p w.clock)).2=0→P (zamn w (za1 w.p.Stake d.D d.V d.N (zzn w.p w.clock)).1) ⟨0,0⟩)
  (hunj:d.Kind=3→(zbf w.p.Stake d.V 1).2=0→P (z83 w (zbf w.p.Stake d.V 1).1) ⟨0,0⟩)
  (hevi:d.Kind=13→(0≤d.V∧d.V < 6)→(1≤d.N∧d.N≤w.p.Height)→w.p.Stake.Validators.Dead.get d.V=false→P (z83 w (zbf (zex w.p.Stake d.V d.N 50).1 d.V 2).1) ⟨0,0⟩)
  (htick:d.Kind=5→1≤d.N→d.N≤1099511627736 - w.clock→P (za0b w d.N) ⟨0,w.clock+d.N⟩)
  (hprov:d.Kind=6→P (zlh w) ⟨0,(((zjj w.p w.clock).2.1.length:Nat):Int)⟩)
  (hbeg:d.Kind=4→(0≤d.C∧d.C < 2)→w.p.Links.Gone.get d.C=false→w.p.Links.On.get d.C=false→1≤w.p.Height→w.p.Set.length≠0→P (zabe w d.C) ⟨0,w.p.Height⟩)
  (hcons:d.Kind=7→(0≤d.C∧d.C < 2)→(zb w.consumers d.C).On=true→P (zt8 w d.C) ⟨0,0⟩)
  (hseen:d.Kind=8→(0≤d.C∧d.C < 2)→(zb w.consumers d.C).On=true→d.Back=true→P (zae4 w d.C) ⟨0,0⟩)
  (hsee:d.Kind=8→(0≤d.C∧d.C < 2)→(zb w.consumers d.C).On=true→d.Back=false→P (zabf w d.C { zb w.consumers d.C with Seen:=zaa5 w.heads d.C }) ⟨0,0⟩)
  (hback:∀ q,d.Kind=9→(0≤d.C∧d.C < 2)→(zb w.consumers d.C).On=true→d.Back=true→zapw w d.C true q→q.Kind≠1→P (gotB w d.C q) ⟨0,(zb w.consumers d.C).Out.Got+1⟩)
  (hforth:∀ q,d.Kind=9→(0≤d.C∧d.C < 2)→(zb w.consumers d.C).On=true→d.Back=false→zapw w d.C false q→q.Kind=1→P (gotF w d.C q) ⟨0,(zc w.p.Links d.C).Out.Got+1⟩)
  (hlate:d.Kind=10→(0≤d.C∧d.C < 2)→(zb w.consumers d.C).On=true→(z6k w d).2=0→P (zae5 w d.C) ⟨0,0⟩)
  (hsay:∀ q f,(d.Kind=11∨d.Kind=12)→(0≤d.C∧d.C < 2)→(zb w.consumers d.C).On=true→zca q=0→(q.Kind=3∧q.Id=(zb w.consumers d.C).Id∨q.Kind=4∧q.Id≤(zb w.consumers d.C).Id)→(zb w.consumers d.C).Out.Closed=false→(zb w.consumers d.C).Out.Said.length < 400→P (zabf w d.C (zaun w d.C q f)) ⟨0,0⟩) :
  P (doW w d).1 (doW w d).2:=by
 have hm:=zjl h hd
 have no:∀ e:Int,e≠0→P (noW (zas w) e).1 (noW (zas w) e).2:=fun e he=>hno _ _ (.more w) he
 unfold doW
 rw[if_neg (by omega)]
 unfold actW
 by_cases c1:d.Kind=1
 ·rw[if_pos c1]
  unfold zpk
  have e:zcu (zas w).p d.D d.V d.N=zcu w.p d.D d.V d.N:=rfl
  by_cases h0:(zcu w.p d.D d.V d.N).2=0
  ·rw[e,if_neg (by simpa using h0)]
   unfold zcu at h0 ⊢
   rw[if_pos h.pr] at h0 ⊢
   by_cases h1:(za9 w.p.Stake d.D d.V d.N).2=0
   ·rw[if_neg (by simpa using h1)];exact hdel c1 h1
   ·rw[if_pos h1] at h0;exact absurd h0 h1
  ·rw[e,if_pos h0];exact no _ h0
 rw[if_neg c1]
 by_cases c2:d.Kind=2
 ·rw[if_pos c2]
  unfold zpk
  have e:zcl (zas w).p d.D d.V d.N (zas w).clock=zcl w.p d.D d.V d.N w.clock:=rfl
  by_cases h0:(zcl w.p d.D d.V d.N w.clock).2=0
  ·rw[e,if_neg (by simpa using h0)]
   unfold zcl at h0 ⊢
   have ht:zag w.p=true∧0≤w.clock∧w.clock≤1099511627776:=⟨h.pr,h.t0,by have:=h.t1;omega⟩
   rw[if_pos ht] at h0 ⊢
   by_cases h1:(za1 w.p.Stake d.D d.V d.N (zzn w.p w.clock)).2=0
   ·rw[if_neg (by simpa using h1)];exact hund c2 h1
   ·rw[if_pos h1] at h0;exact absurd h0 h1
  ·rw[e,if_pos h0];exact no _ h0
 rw[if_neg c2]
 by_cases c3:d.Kind=3
 ·rw[if_pos c3]
  unfold zpk
  by_cases h0:(zbf w.p.Stake d.V 1).2=0
  ·rw[if_neg (by show ¬ (zbf w.p.Stake d.V 1).2≠0;simpa using h0)];exact hunj c3 h0
  ·rw[if_pos (by exact h0)];exact no _ h0
 rw[if_neg c3]
 by_cases c13:d.Kind=13
 ·rw[if_pos c13]
  unfold zpk
  have e:zti (zas w).p d.V d.N=zti w.p d.V d.N:=rfl
  by_cases h0:(zti w.p d.V d.N).2=0
  ·rw[e,if_neg (by simpa using h0)]
   unfold zti at h0 ⊢
   rw[if_neg (by rw[h.pr];simp)] at h0 ⊢
   by_cases h1:0≤d.V∧d.V < 6
   ·rw[if_pos h1] at h0 ⊢
    by_cases h2:1≤d.N∧d.N≤w.p.Height
    ·rw[if_pos h2] at h0 ⊢
     by_cases h3:w.p.Stake.Validators.Dead.get d.V=true
     ·rw[if_pos h3] at h0;cases h0
     ·rw[if_neg h3];exact hevi c13 h1 h2 (Bool.eq_false_iff.2 h3)
    ·rw[if_neg h2] at h0;cases h0
   ·rw[if_neg h1] at h0;cases h0
  ·rw[e,if_pos h0];exact no _ h0
 rw[if_neg c13]
 by_cases c5:d.Kind=5
 ·rw[if_pos c5]
  unfold zaer
  by_cases h0:d.N < 1∨1099511627736 - w.clock < d.N
  ·rw[if_pos (by exact h0)];exact no _ (by omega)
  ·rw[if_neg (by exact h0)];exact htick c5 (by omega) (by omega)
 rw[if_neg c5]
 by_cases c6:d.Kind=6
 ·rw[if_pos c6]
  have ht:zag w.p=true∧w.p.Time≤w.clock∧w.clock≤1099511627776:=⟨h.pr,h.pt,by have:=h.t1;omega⟩
  unfold zkt
  rw[if_neg (by show ¬ (zjj w.p w.clock).2.2≠0;rw[zah0 ht];simp)]
  exact hprov c6
 rw[if_neg c6]
 unfold zot
 by_cases b1:d.Kind < 4∨12 < d.Kind
 ·rw[if_pos b1];exact no _ (by omega)
 rw[if_neg b1]
 by_cases b2:d.C < 0∨2≤d.C
 ·rw[if_pos b2];exact no _ (by omega)
 rw[if_neg b2]
 have hi:0≤d.C∧d.C < 2:=by omega
 by_cases b3:d.Kind≠4∧(zas w).consumers.On.get d.C=false
 ·rw[if_pos b3];exact no _ (by omega)
 rw[if_neg b3]
 by_cases b4:d.Kind=4
 ·rw[if_pos b4]
  unfold zy8
  have e:zds (zas w).p d.C=zds w.p d.C:=rfl
  rw[e]
  by_cases h0:(zds w.p d.C).2=0
  ·obtain ⟨f1,_,f3,f4,f5,f6,f7⟩:=zv2 h0
   rw[if_neg (by simpa using h0),f7]
   exact hbeg b4 hi f3 f4 f5 f6
  ·rw[if_pos h0];exact no _ h0
 rw[if_neg b4]
 have ho:(zb w.consumers d.C).On=true:=by
  cases e:(zb w.consumers d.C).On with
  | true=>rfl
  | false=>exact absurd ⟨b4,e⟩ b3
 have hw:=h.c d.C hi
 have hh:=hw.height
 by_cases b7:d.Kind=7
 ·rw[if_pos b7]
  obtain ⟨e0,-⟩:=zyi (now:=w.clock) hw.good ho ⟨hw.time,by have:=h.t1;omega⟩ (by omega)
  unfold ztw
  rw[if_neg (by show ¬ (zxs w.clock (zb w.consumers d.C)).2≠0;rw[e0];simp)]
  exact hcons b7 hi ho
 rw[if_neg b7]
 by_cases b8:d.Kind=8
 ·rw[if_pos b8]
  unfold z4c
  cases hb:d.Back with
  | true=>rw[if_pos rfl];exact hseen b8 hi ho hb
  | false=>rw[if_neg (by simp)];exact hsee b8 hi ho hb
 rw[if_neg b8]
 by_cases b9:d.Kind=9
 ·rw[if_pos b9]
  unfold zos
  have e1:zlx (zas w) d=zlx w d:=rfl
  rw[e1]
  by_cases h0:(zlx w d).2=0
  ·obtain ⟨f1,f2,f3,f4,f5,f6,f7,f8⟩:=z4e h0
   rw[if_neg (by simpa using h0)]
   have hg0:0≤(zdj w d.C d.Back).Got:=f1.2.2.1
   have hmem:∃ q,zca q=0∧(zdj w d.C d.Back).Said.getD (zdj w d.C d.Back).Got.toNat .empty=txt (zl3 q):=by
    have hm:=zdg (l:=(zdj w d.C d.Back).Said) (k:=(zdj w d.C d.Back).Got.toNat) (by omega) .empty
    generalize (zdj w d.C d.Back).Said.getD (zdj w d.C d.Back).Got.toNat .empty=s at hm
    cases hb:d.Back with
    | true=>rw[hb] at hm;obtain ⟨q,q1,_,q2⟩:=hw.said s hm;exact ⟨q,q1,q2⟩
    | false=>rw[hb] at hm;obtain ⟨q,q1,_,q2⟩:=hw.told s hm;exact ⟨q,q1,q2⟩
   obtain ⟨q,q1,q2⟩:=hmem
   have ht:(zjk (zdj w d.C d.Back) d.Forged).data.toList=zl3 q:=by rw[f5,q2,ztp]
   have hcm:zapw w d.C d.Back q:=⟨f1,f2,by omega,f4,q2,f6,q1⟩
   cases hb:d.Back with
   | true =>
    rw[hb] at ht hcm f7
    rw[if_pos rfl]
    have e2:zl5 (zas w).p d.C (zjk (zdj (zas w) d.C true) d.Forged).data.toList=zl5 w.p d.C (zl3 q):=by rw[← ht];rfl
    rw[e2]
    by_cases h1:(zl5 w.p d.C (zl3 q)).2=0
    ·obtain ⟨_,_,_,q4,_,q6,_⟩:=zza h.pr h1
     rw[zvw q1] at q4 q6
     rw[if_neg (by simpa using h1),q6,f7]
     exact hback q b9 hi ho hb hcm q4
    ·rw[if_pos h1];exact no _ h1
   | false =>
    rw[hb] at ht hcm f7
    rw[if_neg (show ¬ (false=true) by simp)]
    have e2:ztf (zb (zas w).consumers d.C) (zjk (zdj (zas w) d.C false) d.Forged).data.toList=ztf (zb w.consumers d.C) (zl3 q):=by rw[← ht];rfl
    rw[e2]
    by_cases h1:(ztf (zb w.consumers d.C) (zl3 q)).2=0
    ·obtain ⟨_,_,q4,_,q6,_⟩:=z2c hw.good h1
     rw[zvw q1] at q4 q6
     rw[if_neg (by simpa using h1),q6,f7]
     exact hforth q b9 hi ho hb hcm q4
    ·rw[if_pos h1];exact no _ h1
  ·rw[if_pos h0];exact no _ h0
 rw[if_neg b9]
 by_cases b10:d.Kind=10
 ·rw[if_pos b10]
  unfold ztk
  have e1:z6k (zas w) d=z6k w d:=rfl
  rw[e1]
  by_cases h0:(z6k w d).2=0
  ·obtain ⟨f1,f2⟩:=z8x h hi ho
   have e2:zrq (zas w).p d.C=zrp w.p d.C:=f1
   have e3:zvy (zb (zas w).consumers d.C)={ zb w.consumers d.C with On:=false,Gone:=true,Out:={ (zb w.consumers d.C).Out with Closed:=true } }:=f2
   rw[if_neg (by simpa using h0),e2,e3]
   exact hlate b10 hi ho h0
  ·rw[if_pos h0];exact no _ h0
 rw[if_neg b10]
 have hw40:i64.wrap (w.clock+40)=w.clock+40:=zj (by have:=h.t0;omega) (by have:=h.t1;omega)
 by_cases b11:d.Kind=11
 ·rw[if_pos b11]
  unfold putW
  have e1:z1y (zb (zas w).consumers d.C) d.V (zas w).clock=z1y (zb w.consumers d.C) d.V w.clock:=rfl
  rw[e1]
  by_cases h0:(z1y (zb w.consumers d.C) d.V w.clock).2=0
  ·obtain ⟨_,_,_,_,_,_,_,hs,he⟩:=zacs h0
   obtain ⟨s1,s2,s3,s4,s5,s6⟩:=z2b hw.good (by simp) hs
   rw[if_neg (by simpa using h0),he,s5,hw40]
   exact hsay _ _ (.inl b11) hi ho s1 (.inl ⟨rfl,rfl⟩) s3 s4
  ·rw[if_pos h0];exact no _ h0
 rw[if_neg b11]
 by_cases b12:d.Kind=12
 ·rw[if_pos b12]
  unfold putW
  have e1:zpj (zb (zas w).consumers d.C) d.V d.N (zas w).clock=zpj (zb w.consumers d.C) d.V d.N w.clock:=rfl
  rw[e1]
  by_cases h0:(zpj (zb w.consumers d.C) d.V d.N w.clock).2=0
  ·rw[if_neg (by simpa using h0)]
   unfold zpj at h0 ⊢
   by_cases h1:zio (zb w.consumers d.C)=false∨w.clock < 0∨1099511627776 < w.clock
   ·rw[if_pos h1] at h0;cases h0
   rw[if_neg h1] at h0 ⊢
   by_cases h2:(zb w.consumers d.C).On=false∨d.V < 0∨5 < d.V
   ·rw[if_pos h2] at h0;cases h0
   rw[if_neg h2] at h0 ⊢
   by_cases h3:d.N < 1∨(zb w.consumers d.C).Id < d.N
   ·rw[if_pos h3] at h0;cases h0
   rw[if_neg h3] at h0 ⊢
   obtain ⟨s1,s2,s3,s4,s5,s6⟩:=z2b hw.good (q:=⟨4,d.N,d.V,maxC (zb w.consumers d.C) d.V,[],[]⟩) (by simp) h0
   rw[s5,hw40]
   exact hsay ⟨4,d.N,d.V,maxC (zb w.consumers d.C) d.V,[],[]⟩ (zb w.consumers d.C).Flags (.inr b12) hi ho s1 (.inr ⟨rfl,by show d.N≤_;omega⟩) s3 s4
  ·rw[if_pos h0];exact no _ h0
 ·omega
theorem OkW.cfit {w:Wld} (h:OkW w) {i:Int} (hi:0≤i∧i < 2):FitC 140737488351232 (zb w.consumers i):=(h.c i hi).fit h.d1
theorem zapx {w:Wld} (h:OkW w):zc2 w=some (w.p,w):=z80 h.fit
theorem zabg {w:Wld} (h:OkW w) {i:Int} (hi:0≤i∧i < 2):zay i w=some (zb w.consumers i,w):=by
 rw[z81 fun hi=>h.cfit hi,if_pos hi]
theorem zalc:zs6=some true:=by
 obtain ⟨e1,e2,e3⟩:=do_4
 rw[zs6,zvu,Tr.rb zaib,Tr.rb (zaie zaa6 (by decide)),do_1,Tr.rb (zaie okW1 (by decide)),do_2,Tr.rb (zaie okW2 (by decide)),do_3,Tr.rb (zaie okW3 (by decide))]
 simp only[e1]
 rw[Tr.rt (by rfl),Tr.rb (zalb _),Tr.rt (by rw[e2];rfl),Tr.rb (zabg okW4 (by omega)),Tr.rl,e3]
 rfl
theorem zxq {σ ρ τ:Type} {F:σ→Option (σ⊕ρ)} (n:Nat) (mk:Nat→τ→σ) (I:Nat→τ→Prop) (out:τ→ρ)
  (hend:∀ t,I n t→F (mk n t)=some (.inr (out t))) (hstep:∀ i t,i < n→I i t→∃ t',F (mk i t)=some (.inl (mk (i+1) t'))∧I (i+1) t') {t:τ} (h0:I 0 t):∃ t',zdv F (mk 0 t)=some (out t')∧I n t':=by
 obtain ⟨r,h1,t',h2,h3⟩:=zgh (F:=F) n mk I (fun _ _ r=>∃ t',r=out t'∧I n t') (fun t h=>⟨out t,hend t h,t,rfl,h⟩) (fun i t hi h=>by
  obtain ⟨t',k1,k2⟩:=hstep i t hi h
  exact .inl ⟨t',k1,k2,fun r hr=>hr⟩) 0 t (Nat.zero_le _) h0
 exact ⟨t',by rw[h1,h2],h3⟩
def z6o (l:List Deed):Nat:=min l.length 120
theorem zaih {l:List Deed}:((decide (((z6o l:Nat):Int) < ((l.length:Nat):Int)))&&(decide (((z6o l:Nat):Int) < 120)))=false:=by
 unfold z6o
 rw[Bool.and_eq_false_iff,yy8,yy8]
 omega
theorem zaii {l:List Deed} {i:Nat} (h:i < z6o l):((decide ((i:Int) < ((l.length:Nat):Int)))&&(decide ((i:Int) < 120)))=true:=by
 unfold z6o at h
 rw[yy7,decide_eq_true_eq,decide_eq_true_eq]
 omega
theorem zald {l:List Deed} {i:Nat} (h:i < z6o l):i < l.length:=by unfold z6o at h;omega
theorem zzb (l:List Deed):Sl.len (.deeds l)=l.length:=rfl
def zauo (l:List Deed):Prop:=l.length≤4611686018427387904∧∀ d,d∈l→d.N≤9223372036854775807
theorem zale {w:Wld} (d:Deed) (h:w.deeds < 600):(doW w d).1.deeds=w.deeds+1:=by
 have hp:∀ r,(zpk (zas w) r).1.deeds=w.deeds+1:=by intro r;unfold zpk;split<;>rfl
 have hq:∀ i r,(putW (zas w) i r).1.deeds=w.deeds+1:=by intro i r;unfold putW;split<;>rfl
 unfold doW
 rw[if_neg (by omega)]
 unfold actW
 repeat' split
 ·exact hp _
 ·exact hp _
 ·exact hp _
 ·exact hp _
 ·unfold zaer;split<;>rfl
 ·unfold zkt;split<;>rfl
 ·unfold zot
  repeat' split
  ·rfl
  ·rfl
  ·rfl
  ·unfold zy8;split<;>rfl
  ·unfold ztw;split<;>rfl
  ·unfold z4c;split<;>rfl
  ·unfold zos;repeat' split
   all_goals rfl
  ·unfold ztk;split<;>rfl
  ·exact hq _ _
  ·exact hq _ _
  ·rfl
structure Grow (w w':Wld) (i:Int):Prop where
 link:(zc w.p.Links i).Out.Said <+: (zc w'.p.Links i).Out.Said
 cons:(zb w.consumers i).Out.Said <+: (zb w'.consumers i).Out.Said
theorem Grow.one {w w':Wld} {i j:Int} {c:Consumer} (hj:0≤j∧j < 2) (hi:0≤i∧i < 2) (hl:(zc w.p.Links i).Out.Said <+: (zc w'.p.Links i).Out.Said) (hc:w'.consumers=zkf w.consumers j c) (h:(zb w.consumers j).Out.Said <+: c.Out.Said):Grow w w' i:=by
 refine ⟨hl,?_⟩
 rw[hc,zqe hj hi]
 split
 ·rename_i e;rw[e];exact h
 ·exact List.prefix_refl _
def DeadI (s t:Stake):Prop:=∀ v:Int,0≤v→v < 6→(s.Validators.Dead.get v=true→t.Validators.Dead.get v=true)∧s.Validators.Lost.get v≤t.Validators.Lost.get v∧(s.Validators.Lost.get v < t.Validators.Lost.get v→s.Validators.Dead.get v=false∧t.Validators.Dead.get v=true)
theorem DeadI.same {s t:Stake} (h1:t.Validators.Dead=s.Validators.Dead) (h2:t.Validators.Lost=s.Validators.Lost):DeadI s t:=by
 intro v _ _
 rw[h1,h2]
 exact ⟨id,Int.le_refl _,fun h=>absurd h (Int.lt_irrefl _)⟩
theorem DeadI.refl (s:Stake):DeadI s s:=.same rfl rfl
theorem DeadI.trans {s t u:Stake} (h:DeadI s t) (k:DeadI t u):DeadI s u:=by
 intro v h0 h6
 obtain ⟨a1,a2,a3⟩:=h v h0 h6
 obtain ⟨b1,b2,b3⟩:=k v h0 h6
 refine ⟨fun x=>b1 (a1 x),by omega,fun x=>?_⟩
 by_cases e:s.Validators.Lost.get v < t.Validators.Lost.get v
 ·exact ⟨(a3 e).1,b1 (a3 e).2⟩
 ·obtain ⟨c1,c2⟩:=b3 (by omega)
  refine ⟨?_,c2⟩
  cases hd:s.Validators.Dead.get v with
  | false=>rfl
  | true=>rw[a1 hd] at c1;cases c1
def pkT (q:Packet):ByteArray:=txt (zl3 q)
theorem zaij {p q:Packet} (hp:zca p=0) (hq:zca q=0) (h:pkT p=pkT q):p=q:=by
 have h1:zl3 p=zl3 q:=by have:=congrArg (fun b:ByteArray=>b.data.toList) h;exact this
 have h2:=zvw hp
 rw[h1,zvw hq] at h2
 exact (congrArg Prod.fst h2).symm
def zalf (s:List Power) (l:List Packet):List Power:=l.foldl (fun s q=>zxd s q.Set) s
def zapy (id:Int) (l:List Packet):Int:=l.foldl (fun _ q=>q.Id) id
def zapz:Int→List Packet→Prop
 | _,[]=>True
 | id,q::l=>id < q.Id∧zapz q.Id l
theorem z84 {now:Int}:∀ (l:List Packet) (c:Consumer),(l.foldl (zmp now) c).Set=zalf c.Set l∧(l.foldl (zmp now) c).Id=zapy c.Id l
 | [],_=>⟨rfl,rfl⟩
 | q::l,c=>by
  obtain ⟨h1,h2⟩:=z84 l (zmp now c q)
  rw[zrn] at h1 h2
  rw[List.foldl_cons,zrn]
  exact ⟨h1,h2⟩
structure WayI (w:Wld) (i:Int) (ms:List Packet):Prop where
 way:(zc w.p.Links i).Out.Said.drop (zc w.p.Links i).Out.Got.toNat=ms.map pkT
 good:∀ q,q∈ms→zca q=0∧q.Kind=1
 rise:zapz (zb w.consumers i).Id ((zb w.consumers i).Pending++ms)
 id:(zb w.consumers i).Id≤w.p.Height
 ids:∀ q,q∈(zb w.consumers i).Pending++ms→q.Id≤w.p.Height
 told:zalf (zb w.consumers i).Set ((zb w.consumers i).Pending++ms)=(zc w.p.Links i).Told
theorem WayI.same {w w':Wld} {i:Int} {ms:List Packet} (h:WayI w i ms) (e1:(zc w'.p.Links i).Out.Said=(zc w.p.Links i).Out.Said) (e2:(zc w'.p.Links i).Out.Got=(zc w.p.Links i).Out.Got) (e3:(zc w'.p.Links i).Told=(zc w.p.Links i).Told)
  (e4:(zb w'.consumers i).Id=(zb w.consumers i).Id) (e5:(zb w'.consumers i).Pending=(zb w.consumers i).Pending) (e6:(zb w'.consumers i).Set=(zb w.consumers i).Set) (e7:w.p.Height≤w'.p.Height):WayI w' i ms:=by
 obtain ⟨a1,a2,a3,a4,a5,a6⟩:=h
 exact ⟨by rw[e1,e2];exact a1,a2,by rw[e4,e5];exact a3,by rw[e4];omega,fun q hq=>by rw[e5] at hq;have:=a5 q hq;omega,by rw[e5,e6,e3];exact a6⟩
theorem WayI.cons {w w':Wld} {i j:Int} {ms:List Packet} {c:Consumer} (hj:0≤j∧j < 2) (hi:0≤i∧i < 2) (h:WayI w i ms) (hl:(zc w'.p.Links i).Out.Said=(zc w.p.Links i).Out.Said∧(zc w'.p.Links i).Out.Got=(zc w.p.Links i).Out.Got∧(zc w'.p.Links i).Told=(zc w.p.Links i).Told)
  (hc:w'.consumers=zkf w.consumers j c) (h1:c.Id=(zb w.consumers j).Id) (h2:c.Pending=(zb w.consumers j).Pending) (h3:c.Set=(zb w.consumers j).Set) (hH:w.p.Height≤w'.p.Height):WayI w' i ms:=by
 have e:=zqe (C:=w.consumers) hj hi c
 refine h.same hl.1 hl.2.1 hl.2.2 ?_ ?_ ?_ hH
 all_goals
  rw[hc,e]
  split
  ·rename_i k;rw[k];assumption
  ·rfl
def za0c (w:Wld):Prop:=∀ i:Int,0≤i∧i < 2→(zb w.consumers i).On=true→∃ ms,WayI w i ms
theorem zaik {α:Type} {l:List α} {x:α} {k:Nat} (h:k≤l.length):(l++[x]).drop k=l.drop k++[x]:=List.drop_append_of_le_length h
def hN (x:Wait) (i:Int):Int:=if i=0 then x.h0 else x.h1
structure Near (y x:Wait):Prop where
 num:x.Number=y.Number
 due:x.Due=y.Due
 height:x.Height=y.Height
 v:x.V=y.V
 hold:∀ i:Int,0≤i∧i < 2→hN x i=hN y i∨hN x i=0
theorem Near.refl (x:Wait):Near x x:=⟨rfl,rfl,rfl,rfl,fun _ _=>.inl rfl⟩
theorem Near.trans {a b c:Wait} (h:Near a b) (k:Near b c):Near a c :=
 ⟨k.num.trans h.num,k.due.trans h.due,k.height.trans h.height,k.v.trans h.v,fun i hi=>by
  rcases k.hold i hi with e | e
  ·rw[e];exact h.hold i hi
  ·exact .inr e⟩
def NearW (W W':List Wait):Prop:=∀ x,x∈W'→∃ y,y∈W∧Near y x
theorem NearW.refl (W:List Wait):NearW W W:=fun x hx=>⟨x,hx,.refl x⟩
theorem NearW.trans {A B C:List Wait} (h:NearW A B) (k:NearW B C):NearW A C:=fun x hx=>by
 obtain ⟨y,hy,n1⟩:=k x hx
 obtain ⟨z,hz,n2⟩:=h y hy
 exact ⟨z,hz,n2.trans n1⟩
theorem NearW.map {W:List Wait} {f:Wait→Wait} (hf:∀ x,Near x (f x)):NearW W (W.map f):=fun x hx=>by
 obtain ⟨y,hy,rfl⟩:=List.mem_map.1 hx
 exact ⟨y,hy,hf y⟩
theorem z4g {c h:Int} {x:Wait} {i:Int} (hi:0≤i∧i < 2):hN (z59 c h x) i=if c=i∧hN x i≤h then 0 else hN x i:=by
 rcases (show i=0∨i=1 by omega) with rfl | rfl<;>rfl
theorem zalg (c h:Int) (x:Wait):Near x (z59 c h x) :=
 ⟨rfl,rfl,rfl,rfl,fun i hi=>by rw[z4g hi];split;exact .inr rfl;exact .inl rfl⟩
theorem zap0 (v h f:Int) (x:Wait):Near x (slW v h f x):=by
 unfold slW
 split
 ·exact ⟨rfl,rfl,rfl,rfl,fun i hi=>.inl (by rcases (show i=0∨i=1 by omega) with rfl | rfl<;>rfl)⟩
 ·exact .refl x
theorem zgj (s:Stake) (v what:Int):(zbf s v what).1.Waits=s.Waits:=by
 unfold zbf
 repeat' split
 all_goals rfl
theorem zut (s:Stake) (d v n:Int):(za9 s d v n).1.Waits=s.Waits:=by
 unfold za9
 repeat' split
 all_goals rfl
theorem z4h (s:Stake) (v h f:Int):NearW s.Waits (zex s v h f).1.Waits:=by
 unfold zex
 repeat' split
 ·exact .refl _
 ·exact .refl _
 ·exact NearW.map (zap0 v h f)
theorem z85 (p:za) (a:Asked):NearW p.Stake.Waits (ztg p a).1.Stake.Waits:=by
 unfold ztg
 repeat' split
 ·exact NearW.map (zalg _ _)
 ·exact .refl _
 ·show NearW _ (zbf (zex p.Stake a.P.V (zapm p a) 50).1 a.P.V 2).1.Waits
  rw[zgj];exact z4h _ _ _ _
 ·exact .refl _
 ·show NearW _ (zbf p.Stake a.P.V 0).1.Waits
  rw[zgj];exact .refl _
 ·exact .refl _
theorem zail (t:za×A2 Bool×List Asked) (a:Asked):NearW t.1.Stake.Waits (zgu t a).1.Stake.Waits:=by
 unfold zgu
 repeat' split
 ·exact .refl _
 ·exact z85 _ _
 ·exact z85 _ _
def Freed (W:List Wait) (c n:Int):Prop:=∀ x,x∈W→hN x c=0∨n < hN x c
theorem Freed.near {W W':List Wait} {c n:Int} (hc:0≤c∧c < 2) (h:Freed W c n) (k:NearW W W'):Freed W' c n:=fun x hx=>by
 obtain ⟨y,hy,n1⟩:=k x hx
 rcases n1.hold c hc with e | e
 ·rw[e];exact h y hy
 ·exact .inl e
theorem zae6 (t:za×A2 Bool×List Asked) (a:Asked):∀ b,b∈t.2.2→b∈(zgu t a).2.2:=by
 intro b hb
 unfold zgu
 repeat' split
 ·exact List.mem_append_left _ hb
 ·exact hb
 ·exact List.mem_append_left _ hb
theorem zyk:∀ (l:List Asked) (t:za×A2 Bool×List Asked),(∀ b,b∈t.2.2→b∈(l.foldl zgu t).2.2)∧NearW t.1.Stake.Waits (l.foldl zgu t).1.Stake.Waits
 | [],t=>⟨fun _ h=>h,.refl _⟩
 | a::l,t=>by
  obtain ⟨h1,h2⟩:=zyk l (zgu t a)
  exact ⟨fun b hb=>h1 b (zae6 t a b hb),(zail t a).trans h2⟩
theorem z4i:∀ (l:List Asked) (t:za×A2 Bool×List Asked),(∀ a,a∈l→0≤a.C∧a.C < 2)→∀ a,a∈l→a.P.Kind=2→a∈(l.foldl zgu t).2.2∨Freed (l.foldl zgu t).1.Stake.Waits a.C a.P.Id
 | [],_,_,a,ha,_=>by cases ha
 | b::l,t,hc,a,ha,h2=>by
  obtain ⟨g1,g2⟩:=zyk l (zgu t b)
  rcases List.mem_cons.1 ha with rfl | ha
  ·have hca:=hc a (List.mem_cons_self ..)
   have:a∈(zgu t a).2.2∨Freed (zgu t a).1.Stake.Waits a.C a.P.Id:=by
    unfold zgu
    split
    ·exact .inl (by simp)
    ·have e:ztg t.1 a=({ t.1 with Stake:=zmo t.1.Stake a.C a.P.Id },true):=by unfold ztg;rw[if_pos h2]
     rw[e,if_pos rfl]
     refine .inr fun x hx=>?_
     have hx:x∈t.1.Stake.Waits.map (z59 a.C a.P.Id):=hx
     obtain ⟨y,hy,rfl⟩:=List.mem_map.1 hx
     rw[z4g hca]
     split
     ·exact .inl rfl
     ·rename_i k
      refine .inr ?_
      have:¬ hN y a.C≤a.P.Id:=fun h=>k ⟨rfl,h⟩
      omega
   rcases this with h | h
   ·exact .inl (g1 a h)
   ·exact .inr (h.near hca g2)
  ·exact z4i l (zgu t b) (fun c k=>hc c (List.mem_cons_of_mem _ k)) a ha h2
theorem z86 {p:za} {now:Int} (h:zag p=true∧p.Time≤now∧now≤1099511627776):(zjj p now).1.Stake.Waits=(zc0 p now).1.Stake.Waits.filter (fun w => !z27 now w):=by
 rw[(zxo h).2.2.1,zaav (zxm (now:=now) h.1).1.good]
