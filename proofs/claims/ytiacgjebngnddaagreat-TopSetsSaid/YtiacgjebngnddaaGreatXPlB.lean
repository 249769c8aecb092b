/-
  The plain lemmas.
-/
import Derived.Test.YtiacgjebngnddaaGreatXAbInsert
import Derived.Test.YtiacgjebngnddaaGreatXFBank
import Derived.Test.YtiacgjebngnddaaGreatXFCodec
import Derived.Test.YtiacgjebngnddaaGreatXFCons
import Derived.Test.YtiacgjebngnddaaGreatXFLine
import Derived.Test.YtiacgjebngnddaaGreatXFProv
import Derived.Test.YtiacgjebngnddaaGreatXFStakeA
import Derived.Test.YtiacgjebngnddaaGreatXFStakeB
import Derived.Test.YtiacgjebngnddaaGreatXFTop
import Derived.Test.YtiacgjebngnddaaGreatXFWld
import Derived.Test.YtiacgjebngnddaaGreatXPlA
namespace Go.Proofs.YtiacgjebngnddaaGreat.Ab
open Go Go.RowKit
open Go.IntKind (i64 u64)
set_option linter.unusedVariables false
set_option linter.unusedSimpArgs false
def zn7 (l:List Power) (id now:Int):zc:=⟨true,false,0,now,id,l,[],[],⟨false,false,false,false,false,false⟩,⟨[],[],0,false⟩,⟨0,0,0,0⟩⟩
theorem zajl {l:List Power} {id now:Int} (hl:l.length*16≤140737488355328):zgh l id now=some (zn7 l id now):=by
 rw[zgh,zk7,Tr.rb (zac3 hl),Tr.rl];rfl
def zsv (c:zc) (s:List UInt8):zc×Int :=
 if zie c=false then (c,2) else if c.On=false then (c,4) else if (zas s).2≠0 then (c,(zas s).2) else if (zas s).1.Kind≠1 then (c,3)
 else ({ c with Pending:=c.Pending++[(zas s).1] },0)
theorem zanz {c:zc} {a:ByteArray} (h:FitC 140737488351232 c) (ha:a.size≤140737488355328):zhj c a=some (zsv c a.data.toList):=by
 have e1:zef a=some (zas a.data.toList):=z64 (s:=a.data.toList) (by have:a.data.toList.length=a.size:=rfl;omega)
 have e2:=h.pend
 rw[zhj,zmv,Tr.rb e1,Tr.rb (zq1 h)]
 simp only[zac4 (l:=c.Pending) (by omega),Option.isSome_some,yy2]
 unfold zsv
 cases hg:zie c with
 | false=>rw[Tr.rt (by rfl),Tr.rl,if_pos rfl]
 | true =>
  rw[Tr.rf (by rfl),if_neg (by simp)]
  cases ho:c.On with
  | false=>rw[Tr.rt (by rfl),Tr.rl,if_pos rfl]
  | true =>
   rw[Tr.rf (by rfl),if_neg (by simp)]
   by_cases hd:(zas a.data.toList).2=0
   ·rw[Tr.rf (by simpa using hd),if_neg (by simpa using hd)]
    by_cases hk:(zas a.data.toList).1.Kind=1
    ·rw[Tr.rf (by simpa using hk),if_neg (by simpa using hk),Tr.rg (by trivial),Tr.rg (by simp only[zfi,yy5];omega),Tr.rl]
    ·rw[Tr.rt (by simpa using hk),if_pos hk,Tr.rl]
   ·rw[Tr.rt (by simpa using hd),if_pos hd,Tr.rl]
def zrk (p:Packet) (now:Int) (c:zc):Int×zc :=
 if (zf9 p).2≠0 then ((zf9 p).2,c)
 else if (z4w c.Out (zf9 p).1 (i64.wrap (now+40))).2≠0 then ((z4w c.Out (zf9 p).1 (i64.wrap (now+40))).2,c)
 else (0,{ c with Out:=(z4w c.Out (zf9 p).1 (i64.wrap (now+40))).1 })
theorem zabh {p:Packet} {now:Int} {c:zc} (h:(zrk p now c).1≠0):(zrk p now c).2=c:=by
 unfold zrk at h ⊢
 split
 ·rfl
 ·split
  ·rfl
  ·rename_i h1 h2
   rw[if_neg h1,if_neg h2] at h
   exact absurd rfl h
theorem z29 {p:Packet} {now:Int} {c:zc}:(zrk p now c).2.Ripes=c.Ripes:=by
 unfold zrk
 repeat' split
 all_goals rfl
theorem zabi {p:Packet} {now:Int} {c:zc} (h1:p.Set.length*16≤140737488351232) (h2:p.Done.length*8≤140737488351232):za8 p now c=some (zrk p now c):=by
 rw[za8,zou,Tr.rb (z0r h1 h2)]
 unfold zrk
 by_cases he:(zf9 p).2=0
 ·rw[if_neg (by simpa using he),Tr.rf (by simpa using he),Tr.rb (zak1 _ _ _)]
  by_cases hs:(z4w c.Out (zf9 p).1 (i64.wrap (now+40))).2=0
  ·rw[if_neg (by simpa using hs),Tr.rf (by simpa using hs),Tr.rl]
  ·rw[if_pos hs,Tr.rt (by simpa using hs),Tr.rl]
 ·rw[if_pos he,Tr.rt (by simpa using he),Tr.rl]
def clrC (c:zc) (v:Int):zc:={ c with Flags:=c.Flags.set v false }
def z7h (c:zc) (l:List Int):zc:=l.foldl clrC c
theorem z02:∀ (l:List Int) (c:zc),z7h c l={ c with Flags:=l.foldl (fun f v=>f.set v false) c.Flags }
 | [],c=>rfl
 | v::l,c=>by unfold z7h;rw[List.foldl_cons];exact (z02 l (clrC c v)).trans rfl
def znh (now:Int) (c:zc) (p:Packet):zc :=
 { z7h { c with Set:=zn4 c.Set p.Set,Id:=p.Id } p.Done with Ripes:=(z7h { c with Set:=zn4 c.Set p.Set,Id:=p.Id } p.Done).Ripes++[⟨p.Id,i64.wrap (now+15)⟩] }
theorem ztb (now:Int) (c:zc) (p:Packet) :
  znh now c p={ c with Set:=zn4 c.Set p.Set,Id:=p.Id,Flags:=p.Done.foldl (fun f v=>f.set v false) c.Flags,Ripes:=c.Ripes++[⟨p.Id,i64.wrap (now+15)⟩] }:=by
 unfold znh;rw[z02]
def zn8 (now:Int):List Ripe→zc→zc
 | [],c=>c
 | r::rs,c=>if r.Due≤now then (if (zrk ⟨2,r.Id,0,0,[],[]⟩ now c).1≠0 then c else zn8 now rs { (zrk ⟨2,r.Id,0,0,[],[]⟩ now c).2 with Ripes:=rs }) else c
def z3a (now:Int) (c:zc):zc×Int :=
 if zie c=false then (c,2) else if c.On=false then (c,4) else if now < c.Time∨1099511627776 < now then (c,2)
 else (zn8 now (c.Pending.foldl (znh now) { c with Height:=i64.wrap (c.Height+1),Time:=now }).Ripes { c.Pending.foldl (znh now) { c with Height:=i64.wrap (c.Height+1),Time:=now } with Pending:=[] },0)
theorem zar8 {now x2 x3:Int} {x1:List Packet} {l:List Int} {c z:zc} {p:Packet} (hl:l.length≤9223372036854775807) (hv:∀ v,v∈l→0≤v∧v≤5) :
  ziy now x1 x2 x3 l l.length 0 c z p=some (now,x1,x2,x3,z7h c l,z,p):=by
 rw[ziy]
 refine zi5 (F:=fun s:Int×(List Packet)×Int×Int×(List Int)×Int×Int×zc×zc×Packet=>(zei s.1 s.2.1 s.2.2.1 s.2.2.2.1 s.2.2.2.2.1 s.2.2.2.2.2.1 s.2.2.2.2.2.2.1 s.2.2.2.2.2.2.2.1 s.2.2.2.2.2.2.2.2.1 s.2.2.2.2.2.2.2.2.2).run) l 0
  (fun i t=>(now,x1,x2,x3,l,(l.length:Int),(i:Int),t,z,p)) (fun _ _=>True) clrC (fun t=>(now,x1,x2,x3,t,z,p)) ?_ ?_ c trivial
 ·intro t _
  simp only[zei];rw[Tr.rf (by simp),Tr.rl]
 ·intro i t hi _
  have hm:=hv _ (zgj (l:=l) (k:=i) hi 0)
  refine ⟨?_,trivial⟩
  simp only[zei,yy4]
  rw[Tr.rt (by simpa using hi),Tr.rg ⟨by omega,by rw[znf];omega⟩,Tr.rg (by omega),Tr.rl,zx (by omega)]
  rfl
theorem z03 {l:List Packet} (h:l.all zlm=true):∀ p,p∈l→zct p=0∧p.Kind=1∧(∀ v,v∈p.Done→0≤v∧v≤5):=by
 intro p hp
 have h1:=List.all_eq_true.1 h p hp
 unfold zlm at h1
 simp only[yy7,beq_iff_eq] at h1
 obtain ⟨g1,g2,g3,g4,g5,g6,g7,g8,g9,g10,_,_⟩:=zmb h1.2
 exact ⟨h1.2,h1.1,zs6 g10 (by omega)⟩
theorem zar9 {now:Int} {l:List Packet} {c z:zc} (hl:l.length≤9223372036854775807) (hg:l.all zlm=true) (hs:c.Set.length≤9223372036854775807)
  (hp:∀ p,p∈l→p.Set.length*16≤140737488351232∧p.Done.length*8≤140737488351232) (hr:(c.Ripes.length+l.length)*16≤140737488355328) :
  ziz now l l.length 0 c z=some (now,l.foldl (znh now) c,z):=by
 rw[ziz]
 refine zi5 (F:=fun s:Int×(List Packet)×Int×Int×zc×zc=>(zej s.1 s.2.1 s.2.2.1 s.2.2.2.1 s.2.2.2.2.1 s.2.2.2.2.2).run) l default
  (fun i t=>(now,l,(l.length:Int),(i:Int),t,z)) (fun i t=>t.Ripes.length=c.Ripes.length+i∧t.Set.length≤9223372036854775807) (znh now) (fun t=>(now,t,z)) ?_ ?_ c ⟨rfl,hs⟩
 ·intro t _
  simp only[zej];rw[Tr.rf (by simp),Tr.rl]
 ·intro i t hi ht
  obtain ⟨t1,t2⟩:=ht
  have hm:=zgj (l:=l) (k:=i) hi default
  obtain ⟨p1,p2⟩:=hp _ hm
  obtain ⟨q1,q2,q3⟩:=z03 hg _ hm
  have hset:=z0n (fun v=>zwp (l.getD i default).Set v (zcq t.Set v))
  refine ⟨?_,by rw[ztb];simp only[yy6,yy5];omega,by rw[ztb];unfold zn4;simp only[];omega⟩
  simp only[zej,yy4]
  rw[Tr.rt (by simpa using hi),Tr.rg ⟨by omega,by rw[zfi];omega⟩,Tr.rb (zaio t2 (by omega)),Tr.rb (zar8 (by omega) q3)]
  simp only[]
  rw[Tr.rg (by simp only[zkv,yy5,z02];omega),Tr.rl,zx (by omega)]
  rfl
theorem zak4 {now:Int} {z:zc}:∀ (rs:List Ripe) (c:zc),c.Ripes=rs→zbl now c z=some (zn8 now rs c,z)
 | [],c,h=>by
  rw[zbl]
  refine zff ?_
  simp only[zcy,h]
  rw[Tr.rg (by simp),Tr.rf (by simp),Tr.rl]
  rfl
 | r::rs,c,h=>by
  have hlen:(Sl.len (.ripes (r::rs)))=rs.length+1:=rfl
  unfold zn8
  by_cases hd:r.Due≤now
  ·rw[if_pos hd]
   by_cases hs:(zrk ⟨2,r.Id,0,0,[],[]⟩ now c).1=0
   ·rw[if_neg (by simpa using hs),← zak4 rs { (zrk ⟨2,r.Id,0,0,[],[]⟩ now c).2 with Ripes:=rs } rfl,zbl,zbl]
    refine zc5 ?_
    simp only[zcy,h,List.getD_cons_zero,hlen,z29]
    rw[Tr.rg (by intro _;exact ⟨⟨by omega,by omega⟩,trivial⟩),Tr.rt (by simp[hd]),Tr.rg (by omega),Tr.rb (zabi (by simp) (by simp)),Tr.rf (by simpa using hs)]
    simp only[z29,h,hlen]
    rw[Tr.rg (by omega),Tr.rl]
    simp only[List.drop_succ_cons,List.drop_zero,yy4,Nat.add_sub_cancel,List.take_length]
   ·rw[if_pos hs,zbl]
    refine zff ?_
    simp only[zcy,h,List.getD_cons_zero,hlen]
    rw[Tr.rg (by intro _;exact ⟨⟨by omega,by omega⟩,trivial⟩),Tr.rt (by simp[hd]),Tr.rg (by omega),Tr.rb (zabi (by simp) (by simp)),Tr.rt (by simpa using hs),Tr.rl,zabh hs]
  ·rw[if_neg hd,zbl]
   refine zff ?_
   simp only[zcy,h,List.getD_cons_zero,hlen]
   rw[Tr.rg (by intro _;exact ⟨⟨by omega,by omega⟩,trivial⟩),Tr.rf (by simp[hd]),Tr.rl]
theorem zb5 {c:zc} (h:zie c=true):z9o c∧zds c.Out∧zw 1 (-1) c.Set=true∧c.Ripes.all zjd=true∧c.Pending.all zlm=true:=by
 unfold zie at h
 simp only[yy7,decide_eq_true_eq] at h
 exact ⟨h.1.1.1.1,h.1.1.1.2,h.1.1.2,h.1.2,h.2⟩
theorem zasa {now:Int} {c:zc} (h:FitC 140737488351232 c) (hr:(c.Ripes.length+c.Pending.length)*16≤140737488355328):zv c now=some (z3a now c):=by
 have e1:=h.set;have e2:=h.pend;have e3:=h.ripes
 rw[zv,zov,Tr.rb (zq1 h)]
 unfold z3a
 cases hg:zie c with
 | false=>rw[Tr.rt (by rfl),Tr.rl,if_pos rfl]
 | true =>
  obtain ⟨_,_,_,_,hp⟩:=zb5 hg
  rw[Tr.rf (by rfl),if_neg (by simp)]
  cases ho:c.On with
  | false=>rw[Tr.rt (by rfl),Tr.rl,if_pos rfl]
  | true =>
   rw[Tr.rf (by rfl),if_neg (by simp)]
   by_cases ht:now < c.Time∨1099511627776 < now
   ·rw[if_pos ht,Tr.rt (by simpa using ht),Tr.rl]
   ·rw[if_neg ht,Tr.rf (by simp;omega),Tr.rb (zac5 (by omega))]
    rw[Tr.rb (zar9 (by omega) hp (by simp only[];omega) h.ps (by simp only[];omega))]
    simp only[]
    rw[Tr.rb (zak4 _ _ rfl),Tr.rl]<;>first | rw[ho] | rfl
theorem zt8 {now:Int}:∀ (l:List Packet) (c:zc),(l.foldl (znh now) c).Ripes.length=c.Ripes.length+l.length∧(l.foldl (znh now) c).Out=c.Out∧(l.foldl (znh now) c).On=c.On∧(l.foldl (znh now) c).Gone=c.Gone∧(l.foldl (znh now) c).Height=c.Height∧(l.foldl (znh now) c).Time=c.Time
 | [],c=>⟨rfl,rfl,rfl,rfl,rfl,rfl⟩
 | p::l,c=>by
  rw[List.foldl_cons]
  obtain ⟨h1,h2,h3,h4,h5,h6⟩:=zt8 l (znh now c p)
  rw[ztb] at h1 h2 h3 h4 h5 h6 ⊢
  refine ⟨?_,h2,h3,h4,h5,h6⟩
  rw[h1]
  show (c.Ripes++[(⟨p.Id,i64.wrap (now+15)⟩:Ripe)]).length+l.length=_
  rw[yy6,yy5,List.length_cons]
  omega
theorem z3b:∀ {l:List Power} {p v:Int},zw 1 p l=true→zcq l v=0∨1≤zcq l v
 | [],_,_,_=>.inl rfl
 | a::l,p,v,h=>by
  rw[zw] at h
  simp only[yy7,decide_eq_true_eq] at h
  unfold zcq
  split
  ·exact .inr h.1.1.2
  ·exact z3b h.2
def z04 (c:zc) (v now:Int):zc×Int :=
 if zie c=false∨now < 0∨1099511627776 < now then (c,2) else if c.On=false∨v < 0∨5 < v∨zcq c.Set v=0 then (c,4) else if c.Flags.get v=true then (c,5)
 else if (zrk ⟨3,c.Id,v,zcq c.Set v,[],[]⟩ now c).1≠0 then (c,(zrk ⟨3,c.Id,v,zcq c.Set v,[],[]⟩ now c).1)
 else ({ (zrk ⟨3,c.Id,v,zcq c.Set v,[],[]⟩ now c).2 with Flags:=(zrk ⟨3,c.Id,v,zcq c.Set v,[],[]⟩ now c).2.Flags.set v true },0)
theorem zan0 {c:zc} {v now:Int} (h:FitC 140737488351232 c):zdl c v now=some (z04 c v now):=by
 have e1:=h.set
 have hsay:=fun n=>zabi (p:=⟨3,c.Id,v,n,[],[]⟩) (now:=now) (c:=c) (by simp) (by simp)
 rw[zdl,zmx,Tr.rb (zq1 h)]
 simp only[zabg (l:=c.Set) (v:=v) (by omega),hsay,Option.isSome_some,yy2]
 unfold z04
 by_cases h1:zie c=false∨now < 0∨1099511627776 < now
 ·rw[if_pos h1,Tr.rt (by simpa[or_assoc] using h1),Tr.rl]
 ·rw[if_neg h1,Tr.rf (by rw[Bool.eq_false_iff];intro k;apply h1;simpa[or_assoc] using k),Tr.rg (by simp)]
  by_cases h2:c.On=false∨v < 0∨5 < v∨zcq c.Set v=0
  ·rw[if_pos h2,Tr.rt (by
    simp only[Bool.or_eq_true,Bool.not_eq_true',decide_eq_true_eq,beq_iff_eq]
    rcases h2 with h2 | h2 | h2 | h2
    ·exact .inl (.inl (.inl h2))
    ·exact .inl (.inl (.inr h2))
    ·exact .inl (.inr (by omega))
    ·exact .inr h2),Tr.rl]
  ·simp only[not_or] at h2
   rw[if_neg (by simp only[not_or];exact h2),Tr.rf (by
    simp only[Bool.or_eq_false_iff,Bool.not_eq_false',yy8,beq_eq_false_iff_ne]
    exact ⟨⟨⟨by simpa using h2.1,h2.2.1⟩,by omega⟩,h2.2.2.2⟩),Tr.rg (by omega)]
   by_cases h3:c.Flags.get v=true
   ·rw[if_pos h3,Tr.rt h3,Tr.rl]
   ·rw[if_neg h3,Tr.rf (by simpa using h3),Tr.rg (by trivial),Tr.rg (by trivial)]
    by_cases h4:(zrk ⟨3,c.Id,v,zcq c.Set v,[],[]⟩ now c).1=0
    ·rw[if_neg (by simpa using h4),Tr.rf (by simpa using h4),Tr.rg (by omega),Tr.rl]
    ·rw[if_pos h4,Tr.rt (by simpa using h4),Tr.rl,zabh h4]
def maxC (c:zc) (v:Int):Int:=if zcq c.Set v=0 then 1 else zcq c.Set v
def zo4 (c:zc) (v id now:Int):zc×Int :=
 if zie c=false∨now < 0∨1099511627776 < now then (c,2) else if c.On=false∨v < 0∨5 < v then (c,4) else if id < 1∨c.Id < id then (c,2)
 else ((zrk ⟨4,id,v,maxC c v,[],[]⟩ now c).2,(zrk ⟨4,id,v,maxC c v,[],[]⟩ now c).1)
theorem zagc {c:zc} {v id now:Int} (h:FitC 140737488351232 c):zck c v id now=some (zo4 c v id now):=by
 have e1:=h.set
 rw[zck,zjs,Tr.rb (zq1 h)]
 unfold zo4
 by_cases h1:zie c=false∨now < 0∨1099511627776 < now
 ·rw[if_pos h1,Tr.rt (by simpa[or_assoc] using h1),Tr.rl]
 ·rw[if_neg h1,Tr.rf (by rw[Bool.eq_false_iff];intro k;apply h1;simpa[or_assoc] using k)]
  by_cases h2:c.On=false∨v < 0∨5 < v
  ·rw[if_pos h2,Tr.rt (by
    simp only[Bool.or_eq_true,Bool.not_eq_true',decide_eq_true_eq]
    rcases h2 with h2 | h2 | h2
    ·exact .inl (.inl h2)
    ·exact .inl (.inr h2)
    ·exact .inr (by omega)),Tr.rl]
  ·simp only[not_or] at h2
   rw[if_neg (by simp only[not_or];exact h2),Tr.rf (by
    simp only[Bool.or_eq_false_iff,Bool.not_eq_false',yy8]
    exact ⟨⟨by simpa using h2.1,h2.2.1⟩,by omega⟩)]
   by_cases h3:id < 1∨c.Id < id
   ·rw[if_pos h3,Tr.rt (by simpa using h3),Tr.rl]
   ·have hg:zie c=true:=by simp only[not_or] at h1;simpa using h1.1
    have hf:=z3b (v:=v) (zb5 hg).2.2.1
    have hm:(if zcq c.Set v > 1 then zcq c.Set v else 1)=maxC c v:=by
     unfold maxC
     rcases hf with hf | hf
     ·rw[if_neg (by omega),if_pos hf]
     ·rw[if_neg (show ¬ zcq c.Set v=0 by omega)]
      split<;>omega
    rw[if_neg h3,Tr.rf (by simp;omega),Tr.rb (zabg (by omega)),hm,Tr.rb (zabi (by simp) (by simp))]
    by_cases h4:(zrk ⟨4,id,v,maxC c v,[],[]⟩ now c).1=0
    ·rw[Tr.rf (by simpa using h4),Tr.rl,h4]
    ·rw[Tr.rt (by simpa using h4),Tr.rl]
def zvc (c:zc):zc:=if c.On=false then c else { c with On:=false,Gone:=true,Out:={ c.Out with Closed:=true } }
theorem z7i {c:zc}:zfr c=some (zvc c):=by
 rw[zfr,zjt]
 unfold zvc
 cases ho:c.On with
 | false=>rw[Tr.rt (by rfl),Tr.rl,if_pos rfl]
 | true=>rw[Tr.rf (by rfl),Tr.rl,if_neg (by simp)]
theorem z9p {l:zid} {s:ByteArray} {u:Int} (h:(z4w l s u).2=0):zds l∧0≤u∧l.Closed=false∧l.Said.length < 400∧z4w l s u=({ l with Said:=l.Said++[s],Due:=l.Due++[u] },0):=by
 unfold z4w at h ⊢
 by_cases h1:¬ zds l∨u < 0
 ·rw[if_pos h1] at h;cases h
 ·rw[if_neg h1] at h ⊢
  simp only[not_or,Classical.not_not] at h1
  by_cases h2:l.Closed=true
  ·rw[if_pos h2] at h;cases h
  ·rw[if_neg h2] at h ⊢
   by_cases h3:400≤l.Said.length
   ·rw[if_pos h3] at h;cases h
   ·rw[if_neg h3]
    exact ⟨h1.1,by omega,by simpa using h2,by omega,rfl⟩
theorem zajn {l:zid} {s:ByteArray} {u:Int} (h1:zds l) (h2:0≤u) (h3:l.Closed=false) (h4:l.Said.length < 400):z4w l s u=({ l with Said:=l.Said++[s],Due:=l.Due++[u] },0):=by
 unfold z4w
 rw[if_neg (by simp only[not_or,Classical.not_not];exact ⟨h1,by omega⟩),if_neg (by rw[h3];simp),if_neg (by omega)]
theorem z3c {l:zid} {s:ByteArray} {u:Int} (h1:zds l) (h2:0≤u) (h4:l.Said.length < 400):zds { l with Said:=l.Said++[s],Due:=l.Due++[u] }:=by
 obtain ⟨g1,g2,g3,g4,g5⟩:=h1
 refine ⟨by simp[g1],by simp only[yy6,yy5];omega,g3,by simp only[yy6,yy5];omega,?_⟩
 simp only[List.any_append,g5,Bool.false_or,List.any_cons,List.any_nil,Bool.or_false,yy8]
 omega
theorem zagd {p:Packet} {now:Int} {c:zc} (h:(zrk p now c).1=0):zct p=0∧(z4w c.Out (txt (znm p)) (i64.wrap (now+40))).2=0 ∧
  zrk p now c=(0,{ c with Out:={ c.Out with Said:=c.Out.Said++[txt (znm p)],Due:=c.Out.Due++[i64.wrap (now+40)] } }):=by
 have hg:zct p=0:=by
  refine Classical.byContradiction fun hn=>?_
  unfold zrk at h
  rw[z9c hn,if_pos hn] at h
  exact hn h
 unfold zrk at h ⊢
 rw[zkw hg,if_neg (by simp)] at h ⊢
 simp only at h ⊢
 by_cases hs:(z4w c.Out (txt (znm p)) (i64.wrap (now+40))).2=0
 ·rw[if_neg (by simpa using hs),(z9p hs).2.2.2.2]
  exact ⟨hg,rfl,rfl⟩
 ·rw[if_pos hs] at h
  exact absurd h hs
theorem zajo {p:Packet} {now:Int} {c:zc} (hg:zct p=0) (h1:zds c.Out) (h2:0≤i64.wrap (now+40)) (h3:c.Out.Closed=false) (h4:c.Out.Said.length < 400) :
  zrk p now c=(0,{ c with Out:={ c.Out with Said:=c.Out.Said++[txt (znm p)],Due:=c.Out.Due++[i64.wrap (now+40)] } }):=by
 unfold zrk
 rw[zkw hg,if_neg (by simp)]
 simp only
 rw[zajn h1 h2 h3 h4,if_neg (by simp)]
theorem zn9 {c:zc} (h1:z9o c) (h2:zds c.Out) (h3:zw 1 (-1) c.Set=true) (h4:c.Ripes.all zjd=true) (h5:c.Pending.all zlm=true):zie c=true:=by
 unfold zie
 rw[decide_eq_true h1,decide_eq_true h2,h3,h4,h5];rfl
theorem zajp {now:Int} {c:zc} (h1:zie c=true) (h2:c.On=true) (h3:c.Time≤now) (h4:now≤1099511627776) :
  z3a now c=(zn8 now (c.Pending.foldl (znh now) { c with Height:=i64.wrap (c.Height+1),Time:=now }).Ripes { c.Pending.foldl (znh now) { c with Height:=i64.wrap (c.Height+1),Time:=now } with Pending:=[] },0):=by
 unfold z3a
 rw[if_neg (by rw[h1];simp),if_neg (by rw[h2];simp),if_neg (by omega)]
theorem zabj {c:zc} {v now:Int} (h:(z04 c v now).2=0):zie c=true∧0≤now∧now≤1099511627776∧c.On=true∧0≤v∧v≤5∧zcq c.Set v≠0∧(zrk ⟨3,c.Id,v,zcq c.Set v,[],[]⟩ now c).1=0 ∧
  z04 c v now=({ (zrk ⟨3,c.Id,v,zcq c.Set v,[],[]⟩ now c).2 with Flags:=(zrk ⟨3,c.Id,v,zcq c.Set v,[],[]⟩ now c).2.Flags.set v true },0):=by
 unfold z04 at h ⊢
 by_cases h1:zie c=false∨now < 0∨1099511627776 < now
 ·rw[if_pos h1] at h;cases h
 ·rw[if_neg h1] at h ⊢
  by_cases h2:c.On=false∨v < 0∨5 < v∨zcq c.Set v=0
  ·rw[if_pos h2] at h;cases h
  ·rw[if_neg h2] at h ⊢
   by_cases h3:c.Flags.get v=true
   ·rw[if_pos h3] at h;cases h
   ·rw[if_neg h3] at h ⊢
    by_cases h4:(zrk ⟨3,c.Id,v,zcq c.Set v,[],[]⟩ now c).1=0
    ·rw[if_neg (by simpa using h4)]
     simp only[not_or] at h1 h2
     exact ⟨by simpa using h1.1,by omega,by omega,by simpa using h2.1,by omega,by omega,h2.2.2.2,h4,rfl⟩
    ·rw[if_pos h4] at h
     exact absurd h h4
theorem z05:zds ⟨[],[],0,false⟩:=⟨rfl,by decide,by decide,by decide,by decide⟩
theorem zage {id:Int} (h1:1≤id) (h2:id≤1099511627776):zct ⟨2,id,0,0,[],[]⟩=0:=by
 unfold zct
 rw[if_neg (by simp),if_neg (by simp;omega),if_neg (by simp),if_neg (by simp[zw]),if_neg (by simp[zak])]
theorem z9q {m p q:Int} {l:List Power} (h:zw m q l=true) (hp:p≤q):zw m p l=true:=by
 cases l with
 | nil=>rfl
 | cons a l =>
  simp only[zw,yy7,decide_eq_true_eq] at h ⊢
  exact ⟨⟨⟨⟨by omega,h.1.1.1.2⟩,h.1.1.2⟩,h.1.2⟩,h.2⟩
theorem zmc {m p w n:Int} {s l:List Power} (hs:s=[]∨(s=[⟨w,n⟩]∧m≤n∧n≤1125899906842624)) (hp:p < w) (hw:w≤5) (hl:zw m w l=true):zw m p (s++l)=true:=by
 rcases hs with rfl | ⟨rfl,h1,h2⟩
 ·exact z9q hl (by omega)
 ·simp only[List.cons_append,List.nil_append,zw,yy7,decide_eq_true_eq]
  exact ⟨⟨⟨⟨hp,hw⟩,h1⟩,h2⟩,hl⟩
theorem zxr {w n:Int} (h:n≤1125899906842624):zs3 w n=[]∨(zs3 w n=[⟨w,n⟩]∧(1:Int)≤n∧n≤1125899906842624):=by
 unfold zs3
 by_cases hn:0 < n
 ·rw[if_pos hn];exact .inr ⟨rfl,by omega,h⟩
 ·rw[if_neg hn];exact .inl rfl
theorem zajq {f:Nat→Int} (h:∀ v,f v≤1125899906842624):zw 1 (-1) (zep f)=true:=by
 rw[zs5]
 exact zmc (zxr (h 0)) (by omega) (by omega) (zmc (zxr (h 1)) (by omega) (by omega) (zmc (zxr (h 2)) (by omega) (by omega) (zmc (zxr (h 3)) (by omega) (by omega)
  (zmc (zxr (h 4)) (by omega) (by omega) (zmc (zxr (h 5)) (by omega) (by omega) rfl)))))
abbrev zhe (L:Links) (c:Int):zid:=⟨L.Said.get c,L.Due.get c,L.Got.get c,L.Closed.get c⟩
def z7j (p:za) (c:Int):Bool := !(p.Links.On.get c&&p.Links.Gone.get c)&&decide (0≤p.Links.Base.get c)&&decide (p.Links.Base.get c≤p.Height)&&zw 1 (-1) (p.Links.Told.get c)&&decide (zds (zhe p.Links c))&&zak (-1) (p.Links.Done.get c)
def zto (p:za) (a:Asked):Bool:=decide (0≤a.C)&&decide (a.C < 2)&&p.Links.On.get a.C&&(zct a.P==0) && !(a.P.Kind==1)
def zye (p:za):Prop:=0≤p.Height∧p.Height < 1099511627776∧0≤p.Time∧p.Time≤1099511627776
instance (p:za):Decidable (zye p):=inferInstanceAs (Decidable (_∧_))
def zal (p:za):Bool:=decide (GoodS p.Stake)&&decide (zye p)&&zw 1 (-1) p.Set&&z7j p 0&&z7j p 1&&p.Queue.all (zto p)
structure FitPr (R:Nat) (p:za):Prop where
 waits:p.Stake.Waits.length*64≤R
 set:p.Set.length*16≤R
 told:∀ c,(p.Links.Told.get c).length*16≤R
 done:∀ c,(p.Links.Done.get c).length*8≤R
 said:∀ c,(p.Links.Said.get c).length*16≤R
 due:∀ c,(p.Links.Due.get c).length*8≤R
 queue:p.Queue.length*88≤R
 ps:∀ a,a∈p.Queue→a.P.Set.length*16≤R∧a.P.Done.length*8≤R
theorem FitPr.mono {R S:Nat} {p:za} (h:FitPr R p) (hr:R≤S):FitPr S p :=
 ⟨Nat.le_trans h.waits hr,Nat.le_trans h.set hr,fun c=>Nat.le_trans (h.told c) hr,fun c=>Nat.le_trans (h.done c) hr,fun c=>Nat.le_trans (h.said c) hr,fun c=>Nat.le_trans (h.due c) hr,Nat.le_trans h.queue hr,
  fun a ha=>⟨Nat.le_trans (h.ps a ha).1 hr,Nat.le_trans (h.ps a ha).2 hr⟩⟩
theorem zagf {L:Links} {c:Int} {p:za} {k:Link} {l:List Int} (hp:k.Done=l) (hl:l.length≤9223372036854775807) :
  ∃ r,zmz L c l l.length 0 p k=some r∧(match r with | .inl b=>b=false∧zak (-1) l=false | .inr x=>x=(L,c,p)∧zak (-1) l=true):=by
 have:=zp8 (F:=fun s:Links×Int×(List Int)×Int×Int×za×Link=>(zfs s.1 s.2.1 s.2.2.1 s.2.2.2.1 s.2.2.2.2.1 s.2.2.2.2.2.1 s.2.2.2.2.2.2).run)
  (fun s=>s.1=L∧s.2.1=c∧s.2.2.1=l∧s.2.2.2.1=l.length∧0≤s.2.2.2.2.1∧s.2.2.2.2.1≤l.length∧s.2.2.2.2.2.1=p∧s.2.2.2.2.2.2=k∧(0 < s.2.2.2.2.1→0≤zl5 l s.2.2.2.2.1)) (fun s=>l.length - s.2.2.2.2.1.toNat)
  (fun s r=>match r with | .inl b=>b=false∧zak (zl5 l s.2.2.2.2.1) (l.drop s.2.2.2.2.1.toNat)=false | .inr x=>x=(L,c,p)∧zak (zl5 l s.2.2.2.2.1) (l.drop s.2.2.2.2.1.toNat)=true) ?_ (L,c,l,(l.length:Int),0,p,k) ⟨rfl,rfl,rfl,rfl,by simp,by simp,rfl,rfl,by simp⟩
 ·exact this
 ·rintro ⟨y0,y1,x0,x1,x2,x3,x4⟩ ⟨g1,g2,h1,h2,h3,h4,h5,g3,h6⟩
  simp only at g1 g2 g3 h1 h2 h3 h4 h5 h6
  rw[g1,g2,g3,h1,h2,h5] at *
  simp only[zfs,hp]
  by_cases hc:x2 < l.length
  ·have hs:=za2 (l:=l) (k:=x2.toNat) (by omega) 0
   rw[Tr.rt (by simpa using hc),Tr.rg ⟨h3,hc⟩,Tr.rg (by
    intro h _
    simp only[decide_eq_true_eq] at h
    rw[zk (x:=x2 - 1) (by omega) (by omega)]
    exact ⟨⟨by omega,by simp only[Sl.len];omega⟩,trivial⟩)]
   rw[hs]
   have hp:(decide (x2 > 0)&&decide (l.getD (i64.wrap (x2 - 1)).toNat 0≥l.getD x2.toNat 0))=(decide (x2 > 0)&&decide (zl5 l x2≥l.getD x2.toNat 0)):=by
    by_cases h0:x2 > 0
    ·rw[zk (x:=x2 - 1) (by omega) (by omega)]
     unfold zl5
     rw[if_neg (by omega)]
    ·simp[h0]
   rw[hp]
   generalize hq:l.getD x2.toNat 0=q at *
   by_cases hd:zl5 l x2 < q∧q≤5
   ·obtain ⟨d1,d2⟩:=hd
    have hw:i64.wrap (x2+1)=x2+1:=zk (by omega) (by omega)
    have hpv:zl5 l (x2+1)=q:=by unfold zl5;rw[if_neg (by omega),show x2+1 - 1=x2 by omega,hq]
    have hq0:0≤q:=by
     by_cases h0:x2 > 0
     ·have:=h6 h0;omega
     ·have:zl5 l x2 = -1:=by unfold zl5;rw[if_pos (by omega)]
      omega
    refine .inl ⟨_,by rw[Tr.rf (by simp;omega),Tr.rl,hw],⟨rfl,rfl,rfl,rfl,?_,?_,rfl,rfl,?_⟩,?_,?_⟩
    ·simp only[];omega
    ·simp only[];omega
    ·simp only[];rw[hpv];intro _;omega
    ·simp only[];omega
    ·simp only[]
     rw[hpv,show (x2+1).toNat=x2.toNat+1 by omega]
     intro r hr
     rw[zak,decide_eq_true d1,decide_eq_true d2]
     simpa using hr
   ·refine .inr ⟨_,by rw[Tr.rt (by
     by_cases h0:x2 > 0
     ·have:=h6 h0
      simp[h0];omega
     ·have:zl5 l x2 = -1:=by unfold zl5;rw[if_pos (by omega)]
      simp[h0];omega),Tr.rl],?_⟩
    refine ⟨rfl,?_⟩
    rw[zak]
    simp only[Bool.and_eq_false_iff,yy8]
    omega
  ·refine .inr ⟨_,by rw[Tr.rf (by simpa using hc),Tr.rl],?_⟩
   refine ⟨rfl,?_⟩
   rw[List.drop_eq_nil_of_le (by omega)];rfl
theorem zajr {l:List Power} (hl:l.length≤9223372036854775807) :
  ∃ r,zn1 l l l.length 0=some r∧(match r with | .inl b=>b=false∧zw 1 (-1) l=false | .inr x=>zw 1 (-1) l=true):=by
 have:=zp8 (F:=fun s:(List Power)×(List Power)×Int×Int=>(zgi s.1 s.2.1 s.2.2.1 s.2.2.2).run)
  (fun s=>s.1=l∧s.2.1=l∧s.2.2.1=l.length∧0≤s.2.2.2∧s.2.2.2≤l.length ∧ -1≤zfv l s.2.2.2∧(0 < s.2.2.2→0≤zfv l s.2.2.2)) (fun s=>l.length - s.2.2.2.toNat)
  (fun s r=>match r with | .inl b=>b=false∧zw 1 (zfv l s.2.2.2) (l.drop s.2.2.2.toNat)=false | .inr x=>zw 1 (zfv l s.2.2.2) (l.drop s.2.2.2.toNat)=true) ?_ (l,l,(l.length:Int),0) ⟨rfl,rfl,rfl,by simp,by simp,by simp[zfv],by simp⟩
 ·exact this
 ·rintro ⟨y0,x0,x1,x2⟩ ⟨g1,h1,h2,h3,h4,h6,h7⟩
  simp only at g1 h1 h2 h3 h4 h6 h7
  rw[g1,h1,h2] at *
  simp only[zgi]
  by_cases hc:x2 < l.length
  ·have hs:=za2 (l:=l) (k:=x2.toNat) (by omega) default
   rw[Tr.rt (by simpa using hc),Tr.rg ⟨h3,hc⟩,Tr.rg (by
    intro h _
    simp only[decide_eq_true_eq] at h
    rw[zk (x:=x2 - 1) (by omega) (by omega)]
    exact ⟨⟨by omega,by simp only[Sl.len];omega⟩,trivial⟩)]
   rw[hs]
   have hp:(decide (x2 > 0)&&decide ((l.getD (i64.wrap (x2 - 1)).toNat default).V≥(l.getD x2.toNat default).V))=(decide (x2 > 0)&&decide (zfv l x2≥(l.getD x2.toNat default).V)):=by
    by_cases h0:x2 > 0
    ·rw[zk (x:=x2 - 1) (by omega) (by omega)]
     unfold zfv
     rw[if_neg (by omega)]
    ·simp[h0]
   rw[hp]
   generalize hq:l.getD x2.toNat default=q at *
   by_cases hd:zfv l x2 < q.V∧q.V≤5∧1≤q.N∧q.N≤1125899906842624
   ·obtain ⟨d1,d2,d3,d4⟩:=hd
    have hw:i64.wrap (x2+1)=x2+1:=zk (by omega) (by omega)
    have hpv:zfv l (x2+1)=q.V:=by unfold zfv;rw[if_neg (by omega),show x2+1 - 1=x2 by omega,hq]
    refine .inl ⟨_,by rw[Tr.rf (by simp;omega),Tr.rl,hw],⟨rfl,rfl,rfl,?_,?_,?_,?_⟩,?_,?_⟩
    ·simp only[];omega
    ·simp only[];omega
    ·simp only[];rw[hpv];omega
    ·simp only[];rw[hpv];intro _;omega
    ·simp only[];omega
    ·simp only[]
     rw[hpv,show (x2+1).toNat=x2.toNat+1 by omega]
     intro r hr
     rw[zw,decide_eq_true d1,decide_eq_true d2,decide_eq_true d3,decide_eq_true d4]
     simpa using hr
   ·refine .inr ⟨_,by rw[Tr.rt (by
     by_cases h0:x2 > 0
     ·have:=h7 h0
      simp[h0];omega
     ·have:zfv l x2 = -1:=by unfold zfv;rw[if_pos (by omega)]
      simp[h0];omega),Tr.rl],?_⟩
    refine ⟨rfl,?_⟩
    rw[zw]
    simp only[Bool.and_eq_false_iff,yy8]
    omega
  ·refine .inr ⟨_,by rw[Tr.rf (by simpa using hc),Tr.rl],?_⟩
   rw[List.drop_eq_nil_of_le (by omega)];rfl
theorem ztc {l:List Power} (hl:l.length≤9223372036854775807):zc2 l=some (zw 1 (-1) l):=by
 obtain ⟨r,h1,h2⟩:=zajr hl
 rw[zc2,zox]
 cases r with
 | inl b=>rw[Tr.ri h1,Tr.rl,h2.1,h2.2]
 | inr x=>rw[Tr.rj h1,Tr.rl,h2]
theorem zasb {p:za} {a:Asked} (h:a.P.Set.length*16≤140737488351232∧a.P.Done.length*8≤140737488351232):zi0 a p=some (!zto p a,p):=by
 rw[zi0,zju,Tr.rg (by
  intro h0
  simp only[Bool.or_eq_false_iff,yy8] at h0
  exact ⟨⟨by omega,by omega⟩,trivial⟩),Tr.rg (fun _=>⟨by rw[zwr h.1 h.2];rfl,trivial⟩),Tr.rl,zwr h.1 h.2]
 congr 2
 unfold zto
 simp only[yy2]
 have e1:decide (a.C < 0) = !decide (0≤a.C):=by rw[← decide_not];congr 1;exact propext ⟨fun h=>by omega,fun h=>by omega⟩
 have e2:decide (a.C≥2) = !decide (a.C < 2):=by rw[← decide_not];congr 1;exact propext ⟨fun h=>by omega,fun h=>by omega⟩
 rw[e1,e2]
 simp only[Bool.not_and,Bool.not_not]
 rfl
theorem zan1 {l:List Asked} {p:za} (hl:l.length≤9223372036854775807) (hp:∀ a,a∈l→a.P.Set.length*16≤140737488351232∧a.P.Done.length*8≤140737488351232) :
  zby l p=some (!l.all (zto p),p):=by
 obtain ⟨r,h1,h2⟩:=zf8 (F:=fun s:(List Asked)×Int×Int×za=>(z9 s.1 s.2.1 s.2.2.1 s.2.2.2).run) l.length
  (fun i (_:Unit)=>(l,(l.length:Int),(i:Int),p)) (fun i _=>True) (fun i _ r=>match r with | .inl k=>(0≤k.1∧k.2=p)∧(l.drop i).all (zto p)=false | .inr q=>q=p∧(l.drop i).all (zto p)=true) (by
   intro t _
   refine ⟨.inr p,?_,rfl,?_⟩
   ·simp only[z9];rw[Tr.rf (by simp),Tr.rl]
   ·rw[List.drop_length];rfl) (by
   intro i t hi _
   have hs:=za2 (l:=l) (k:=i) hi default
   have hm:=zgj (l:=l) (k:=i) hi default
   simp only[z9,yy4]
   rw[Tr.rt (by simpa using hi),Tr.rg ⟨by omega,by show (i:Int) < (l.length:Nat);omega⟩,Tr.rb (zasb (hp _ hm)),hs]
   simp only[List.all_cons]
   obtain ⟨b,hb⟩:∃ b,b=zto p (l.getD i default):=⟨_,rfl⟩
   rw[← hb]
   cases b with
   | true =>
    refine .inl ⟨(),?_,trivial,?_⟩
    ·rw[Tr.rf (show (!true)=false from rfl),Tr.rl,zx (by omega)]
    ·intro r hr
     cases r with
     | inl x=>exact ⟨hr.1,by rw[hr.2];rfl⟩
     | inr x=>rw[Bool.true_and];exact hr
   | false =>
    refine .inr ⟨.inl (i,p),?_,⟨by simp only[];omega,rfl⟩,by rfl⟩
    rw[Tr.rt (show (!false)=true from rfl),Tr.rl]) 0 () (by omega) trivial
 have h1:zc9 l l.length 0 p=some r:=h1
 rw[zby,zb2]
 cases r with
 | inl k =>
  simp only[List.drop_zero] at h2
  rw[Tr.rb (v:=k) (by rw[zb1,za4,Tr.ri h1,Tr.rl]),Tr.rl,h2.2,h2.1.2]
  simp[h2.1.1]
 | inr k =>
  simp only[List.drop_zero] at h2
  rw[Tr.rb (v:=(-1,k)) (by rw[zb1,za4,Tr.rj h1,Tr.rl]),Tr.rl,h2.2,h2.1]
  rfl
theorem zax7 (x y b c d e:Bool):(((((x&&y) || !b) || !c) || !d) || !e) = !(!(x&&y)&&b&&c&&d&&e):=by
 cases x<;>cases y<;>cases b<;>cases c<;>cases d<;>cases e<;>rfl
theorem z7k {p:za} (hf:FitPr 140737488351232 p) {c:Nat} (hc:c < 2) :
  (zcl p.Links c p).run=some (if z7j p c=true then .inl (p.Links,((c+1:Nat):Int),p) else .inr (.inl false)):=by
 simp only[zcl]
 have ht:=hf.told c
 have hd:=hf.done c
 rw[Tr.rt (by simp;omega),Tr.rg ⟨by omega,by omega⟩,Tr.rg (fun _=>⟨by rw[ztc (by omega)];rfl,trivial⟩),Tr.rg (fun _=>⟨by rw[zxk];rfl,trivial⟩),ztc (by omega),zxk]
 simp only[yy2]
 have e:((((((p.Links.On.get (c:Int))&&(p.Links.Gone.get (c:Int)))||(decide ((p.Links.Base.get (c:Int)) < 0)))||(decide ((p.Links.Base.get (c:Int)) > p.Height)))||(!zw 1 (-1) (p.Links.Told.get (c:Int))))||(!decide (zds (zhe p.Links c)))) =
   !(!(p.Links.On.get (c:Int)&&p.Links.Gone.get (c:Int))&&decide (0≤p.Links.Base.get (c:Int))&&decide (p.Links.Base.get (c:Int)≤p.Height)&&zw 1 (-1) (p.Links.Told.get (c:Int))&&decide (zds (zhe p.Links c))):=by
  have e1:decide (p.Links.Base.get (c:Int) < 0) = !decide (0≤p.Links.Base.get (c:Int)):=by rw[← decide_not];congr 1;exact propext ⟨fun h=>by omega,fun h=>by omega⟩
  have e2:decide (p.Links.Base.get (c:Int) > p.Height) = !decide (p.Links.Base.get (c:Int)≤p.Height):=by rw[← decide_not];congr 1;exact propext ⟨fun h=>by omega,fun h=>by omega⟩
  rw[e1,e2]
  exact zax7 _ _ _ _ _ _
 rw[show zhe p.Links (c:Int)=(⟨p.Links.Said.get (c:Int),p.Links.Due.get (c:Int),p.Links.Got.get (c:Int),p.Links.Closed.get (c:Int)⟩:zid) from rfl] at e
 rw[e]
 unfold z7j
 rw[show zhe p.Links (c:Int)=(⟨p.Links.Said.get (c:Int),p.Links.Due.get (c:Int),p.Links.Got.get (c:Int),p.Links.Closed.get (c:Int)⟩:zid) from rfl]
 generalize (!(p.Links.On.get (c:Int)&&p.Links.Gone.get (c:Int))&&decide (0≤p.Links.Base.get (c:Int))&&decide (p.Links.Base.get (c:Int)≤p.Height)&&zw 1 (-1) (p.Links.Told.get (c:Int))&&decide (zds (⟨p.Links.Said.get (c:Int),p.Links.Due.get (c:Int),p.Links.Got.get (c:Int),p.Links.Closed.get (c:Int)⟩:zid)))=b
 cases b with
 | false=>rw[Tr.rt (show (!false)=true from rfl),Tr.rl];rfl
 | true =>
  rw[Tr.rf (show (!true)=false from rfl)]
  obtain ⟨r,h1,h2⟩:=zagf (L:=p.Links) (c:=(c:Int)) (p:=p) (k:=⟨p.Links.On.get c,p.Links.Gone.get c,p.Links.Base.get c,p.Links.Told.get c,p.Links.Fresh.get c,p.Links.Done.get c,⟨p.Links.Said.get c,p.Links.Due.get c,p.Links.Got.get c,p.Links.Closed.get c⟩,⟨p.Links.SHeight.get c,p.Links.STime.get c,p.Links.SSaid.get c,p.Links.SGot.get c⟩⟩)
   (l:=p.Links.Done.get c) rfl (by omega)
  cases r with
  | inl b=>rw[Tr.ri h1,Tr.rl,h2.1,h2.2];rfl
  | inr x=>rw[Tr.rj h1,Tr.rl,h2.1,h2.2,zx (by omega)];rfl
theorem zh0 {p:za} (hf:FitPr 140737488351232 p):zbc p=some (zal p):=by
 have hs:=hf.set
 have hq:=hf.queue
 have loop:zhs p.Links 0 p=some (if z7j p 0=true then (if z7j p 1=true then .inr p else .inl false) else .inl false):=by
  rw[zhs]
  have t0:=z7k hf (c:=0) (by omega)
  have t1:=z7k hf (c:=1) (by omega)
  simp only[Int.ofNat_zero,Nat.zero_add,Int.ofNat_one] at t0 t1
  by_cases h0:z7j p 0=true
  ·rw[if_pos h0] at t0 ⊢
   rw[zc5 (s':=(p.Links,((1:Nat):Int),p)) t0]
   by_cases h1:z7j p 1=true
   ·rw[if_pos h1] at t1 ⊢
    rw[zc5 (s':=(p.Links,((2:Nat):Int),p)) t1,zff (r:=.inr p) (by
     show (zcl p.Links 2 p).run=_
     simp only[zcl]
     rw[Tr.rf (by simp),Tr.rl])]
   ·rw[if_neg h1] at t1 ⊢
    rw[zff (r:=.inl false) t1]
  ·rw[if_neg h0] at t0 ⊢
   rw[zff (r:=.inl false) t0]
 rw[zbc,zm0,Tr.rb (zst p.Stake),Tr.rg (fun _=>⟨by rw[ztc (by omega)];rfl,trivial⟩),ztc (by omega)]
 simp only[yy2]
 have e:((((((!decide (GoodS p.Stake))||(decide (p.Height < 0)))||(decide (p.Height≥1099511627776)))||(decide (p.Time < 0)))||(decide (p.Time > 1099511627776)))||(!zw 1 (-1) p.Set)) = !(decide (GoodS p.Stake)&&decide (zye p)&&zw 1 (-1) p.Set):=by
  rw[Bool.eq_iff_iff]
  simp only[Bool.or_eq_true,Bool.not_eq_true',yy8,decide_eq_true_eq,Bool.and_eq_false_iff]
  unfold zye
  constructor
  ·rintro (((((h | h) | h) | h) | h) | h)
   ·exact .inl (.inl h)
   ·exact .inl (.inr (by omega))
   ·exact .inl (.inr (by omega))
   ·exact .inl (.inr (by omega))
   ·exact .inl (.inr (by omega))
   ·exact .inr h
  ·rintro ((h | h) | h)
   ·exact .inl (.inl (.inl (.inl (.inl h))))
   ·rcases (show p.Height < 0∨p.Height≥1099511627776∨p.Time < 0∨p.Time > 1099511627776 by omega) with k | k | k | k
    ·exact .inl (.inl (.inl (.inl (.inr k))))
    ·exact .inl (.inl (.inl (.inr k)))
    ·exact .inl (.inl (.inr k))
    ·exact .inl (.inr k)
   ·exact .inr h
 rw[e]
 unfold zal
 generalize (decide (GoodS p.Stake)&&decide (zye p)&&zw 1 (-1) p.Set)=b
 cases b with
 | false=>rw[Tr.rt (show (!false)=true from rfl),Tr.rl];rfl
 | true =>
  rw[Tr.rf (show (!true)=false from rfl)]
  by_cases h0:z7j p 0=true
  ·rw[if_pos h0] at loop
   by_cases h1:z7j p 1=true
   ·rw[if_pos h1] at loop
    rw[Tr.rj loop,Tr.rb (zan1 (by omega) hf.ps),Tr.rl,h0,h1]
    simp
   ·rw[if_neg h1] at loop
    rw[Tr.ri loop,Tr.rl,h0,Bool.eq_false_iff.2 h1]
    rfl
  ·rw[if_neg h0] at loop
   rw[Tr.ri loop,Tr.rl,Bool.eq_false_iff.2 h0]
   rfl
structure zax8 (p:za):Prop where
 waits:p.Stake.Waits.length≤9223372036854775807
 set:p.Set.length≤9223372036854775807
 told:∀ c,(p.Links.Told.get c).length≤9223372036854775807
 done:∀ c,(p.Links.Done.get c).length≤9223372036854775807
 said:∀ c,(p.Links.Said.get c).length≤9223372036854775807
 due:∀ c,(p.Links.Due.get c).length≤9223372036854775807
 queue:p.Queue.length≤9223372036854775807
 ps:∀ a,a∈p.Queue→a.P.Set.length≤9223372036854775807∧a.P.Done.length≤9223372036854775807
theorem FitPr.len {R:Nat} {p:za} (h:FitPr R p) (hR:R≤9223372036854775807):zax8 p :=
 ⟨by have:=h.waits;omega,by have:=h.set;omega,fun c=>by have:=h.told c;omega,fun c=>by have:=h.done c;omega,fun c=>by have:=h.said c;omega,fun c=>by have:=h.due c;omega,by have:=h.queue;omega,
  fun a ha=>by have:=h.ps a ha;omega⟩
theorem zww {α:Type} {t e:Tr α}:(Tr.ite (!true) t e).run=e.run:=Tr.rf (show (!true)=false from rfl)
theorem zwx {α:Type} {t e:Tr α}:(Tr.ite (!false) t e).run=t.run:=Tr.rt (show (!false)=true from rfl)
def newM (x t:Int):Meter:=⟨if x < 5 then 1 else x / 5,i64.wrap (t+10)⟩
def zac7 (m:Meter) (x t:Int):Meter:=if m.Next≤t then newM x t else m
def z9r (m:Meter) (n:Int):Meter×Bool:=if m.Left≤0 then (m,false) else (⟨i64.wrap (m.Left - n),m.Next⟩,true)
theorem zagg {x t:Int} (hx:i6 x):znv x t=some (newM x t):=by
 have h:zik x=some (if x < 5 then 1 else x / 5):=by
  rw[zik,zjl,Tr.rg (by decide),Tr.rl]
  unfold i6 at hx
  by_cases h5:x < 5
  ·have:Int.tdiv x 5 < 1:=by
    by_cases h0:0≤x
    ·rw[Int.tdiv_eq_ediv_of_nonneg h0];omega
    ·have:Int.tdiv x 5≤0:=by
      have h1:Int.tdiv (-x) 5 = - Int.tdiv x 5:=Int.neg_tdiv x 5
      rw[Int.tdiv_eq_ediv_of_nonneg (by omega)] at h1
      omega
     omega
   have hl : -9223372036854775808≤Int.tdiv x 5:=by
    by_cases h0:0≤x
    ·rw[Int.tdiv_eq_ediv_of_nonneg h0];omega
    ·have h1:Int.tdiv (-x) 5 = - Int.tdiv x 5:=Int.neg_tdiv x 5
     rw[Int.tdiv_eq_ediv_of_nonneg (by omega)] at h1
     omega
   rw[zk (by omega) (by omega),if_neg (by omega),if_pos h5]
  ·rw[Int.tdiv_eq_ediv_of_nonneg (by omega),zk (by omega) (by omega),if_neg h5]
   split
   ·rfl
   ·congr 1;omega
 rw[znv,zuw,Tr.rb h,Tr.rl];rfl
theorem zabk {m:Meter} {x t:Int} (hx:i6 x):zl1 m x t=some (zac7 m x t):=by
 rw[zl1,zrz]
 unfold zac7
 by_cases h:m.Next≤t
 ·rw[Tr.rt (by simpa using h),Tr.rb (zagg hx),Tr.rl,if_pos h]
 ·rw[Tr.rf (by simpa using h),Tr.rl,if_neg h]
theorem zabl {m:Meter} {n:Int}:zgd m n=some (z9r m n):=by
 rw[zgd,zr0]
 unfold z9r
 by_cases h:m.Left≤0
 ·rw[Tr.rt (by simpa using h),Tr.rl,if_pos h]
 ·rw[Tr.rf (by simpa using h),Tr.rl,if_neg h]
def z7l:za:=⟨0,0,newS,[],default,newM 0 0,[]⟩
theorem zac8:zmy=some z7l:=by
 rw[zmy,zow,Tr.rb z9k,Tr.rb (zagg (by unfold i6;omega)),Tr.rl];rfl
def zcn (p:za) (d v n:Int):za×Int :=
 if zal p=true then (if (zbo p.Stake d v n).2≠0 then (p,(zbo p.Stake d v n).2) else ({ p with Stake:=(zbo p.Stake d v n).1 },0)) else (p,2)
theorem z06 {p:za} (hf:FitPr 140737488351232 p) {d v n:Int} (hn:n≤9223372036854775807):zgq p d v n=some (zcn p d v n):=by
 rw[zgq,zht,Tr.rb (zh0 hf)]
 unfold zcn
 by_cases hg:zal p=true
 ·rw[hg,zww,if_pos rfl,Tr.rb (z9f hn)]
  by_cases h0:(zbo p.Stake d v n).2≠0
  ·rw[Tr.rt (by simpa using h0),Tr.rl,if_pos h0]
  ·rw[Tr.rf (by simpa using h0),Tr.rl,if_neg h0]
 ·rw[Bool.eq_false_iff.2 hg,zwx,Tr.rl];rfl
def z07 (p:za) (now:Int):Wait:=⟨0,0,0,0,p.Height+1,now+20,if p.Links.On.x0=true then p.Height+1 else 0,if p.Links.On.x1=true then p.Height+1 else 0⟩
def z7m (L:Links):Links:={ L with Fresh:=⟨L.Fresh.x0||L.On.x0,L.Fresh.x1||L.On.x1⟩ }
def zcg (p:za) (d v k now:Int):za×Int :=
 if zal p=true∧0≤now∧now≤1099511627776 then
  (if (za3 p.Stake d v k (z07 p now)).2≠0 then (p,(za3 p.Stake d v k (z07 p now)).2) else ({ p with Stake:=(za3 p.Stake d v k (z07 p now)).1,Links:=z7m p.Links },0))
 else (p,2)
theorem zh1 {p:za} (h:zal p=true):GoodS p.Stake∧zye p∧zw 1 (-1) p.Set=true∧z7j p 0=true∧z7j p 1=true∧p.Queue.all (zto p)=true:=by
 unfold zal at h
 simp only[yy7,decide_eq_true_eq] at h
 exact ⟨h.1.1.1.1.1,h.1.1.1.1.2,h.1.1.1.2,h.1.1.2,h.1.2,h.2⟩
theorem z3d {p:za} {now:Int}:(((!zal p)||(decide (now < 0)))||(decide (now > 1099511627776))) = !decide (zal p=true∧0≤now∧now≤1099511627776):=by
 rw[Bool.eq_iff_iff]
 simp only[Bool.or_eq_true,Bool.not_eq_true',decide_eq_true_eq,yy8]
 cases zal p<;>simp<;>omega
theorem zxs {p:za} (hf:FitPr 140737488351232 p) {d v k now:Int} (hk:k≤9223372036854775807):za6 p d v k now=some (zcg p d v k now):=by
 rw[za6,zf3,Tr.rb (zh0 hf)]
 unfold zcg
 by_cases hg:zal p=true∧0≤now∧now≤1099511627776
 ·rw[if_pos hg]
  obtain ⟨g1,g2,-⟩:=zh1 hg.1
  unfold zye at g2
  have turn:∀ (c:Nat),c < 2→∀ (q:za) (w:Wait),(zau d v k c p q w).run=some (.inl (d,v,k,((c+1:Nat):Int),p,q,if p.Links.On.get c=true then { w with h0:=if (c:Int)=0 then p.Height+1 else w.h0,h1:=if (c:Int)=1 then p.Height+1 else w.h1 } else w)):=by
   intro c hc q w
   simp only[zau]
   rw[Tr.rt (by simp;omega),Tr.rg ⟨by omega,by omega⟩]
   by_cases ho:p.Links.On.get c=true
   ·rw[Tr.rt ho,Tr.rg ⟨by omega,by omega⟩,Tr.rl,zx (by omega),if_pos ho,zk (by omega) (by omega)]
   ·rw[Tr.rf (Bool.eq_false_iff.2 ho),Tr.rl,zx (by omega),if_neg ho]
  have hw:zdz d v k 0 p default ⟨0,0,0,0,p.Height+1,now+20,0,0⟩=some (d,v,k,p,default,z07 p now):=by
   rw[zdz,zc5 (s':=(d,v,k,((1:Nat):Int),p,_,_)) (turn 0 (by omega) _ _),zc5 (s':=(d,v,k,((2:Nat):Int),p,_,_)) (turn 1 (by omega) _ _),zff (by
    show (zau d v k 2 p _ _).run=_
    simp only[zau]
    rw[Tr.rf (by simp),Tr.rl])]
   have e0:p.Links.On.get ((0:Nat):Int)=p.Links.On.x0:=rfl
   have e1:p.Links.On.get ((1:Nat):Int)=p.Links.On.x1:=rfl
   rw[e0,e1]
   unfold z07
   cases p.Links.On.x0<;>cases p.Links.On.x1<;>rfl
  rw[Tr.rf (by rw[z3d,decide_eq_true hg];rfl),zk (x:=p.Height+1) (by omega) (by omega),zk (x:=now+20) (by omega) (by omega),Tr.rb hw]
  simp only[]
  rw[Tr.rb (z48 hk)]
  by_cases h0:(za3 p.Stake d v k (z07 p now)).2≠0
  ·rw[Tr.rt (by simpa using h0),Tr.rl,if_pos h0]
  ·rw[Tr.rf (by simpa using h0),if_neg h0]
   have turn2:∀ (c:Nat),c < 2→∀ (p q:za),(zav c p q).run=some (.inl (((c+1:Nat):Int),{ p with Links:={ p.Links with Fresh:=p.Links.Fresh.set c (p.Links.Fresh.get c||p.Links.On.get c) } },q)):=by
    intro c hc p q
    simp only[zav]
    rw[Tr.rt (by simp;omega),Tr.rg ⟨by omega,by omega⟩,Tr.rg (fun _=>⟨⟨by omega,by omega⟩,trivial⟩),Tr.rg ⟨by omega,by omega⟩,Tr.rl,zx (by omega)]
   rw[Tr.rb (v:=({ p with Stake:=(za3 p.Stake d v k (z07 p now)).1,Links:=z7m p.Links },default)) (by
    rw[zg9,zc5 (s':=(((1:Nat):Int),_,_)) (turn2 0 (by omega) _ _),zc5 (s':=(((2:Nat):Int),_,_)) (turn2 1 (by omega) _ _),zff (by
     show (zav 2 _ _).run=_
     simp only[zav]
     rw[Tr.rf (by simp),Tr.rl])]
    rfl),Tr.rl]
 ·rw[if_neg hg,Tr.rt (by rw[z3d,decide_eq_false hg];rfl),Tr.rl]
theorem zwy:∀ {l:List Int} {p:Int},zak p l=true→(∀ q,q∈l→p < q∧q≤5)∧l.Pairwise (· < ·)
 | [],p,h=>⟨by simp,.nil⟩
 | q::l,p,h=>by
  simp only[zak,yy7,decide_eq_true_eq] at h
  obtain ⟨h1,h2⟩:=zwy h.2
  refine ⟨fun x hx=>?_,List.pairwise_cons.2 ⟨fun x hx=>(h1 x hx).1,h2⟩⟩
  rcases List.mem_cons.1 hx with rfl | hx
  ·exact h.1
  ·have:=h1 x hx;omega
theorem z7n:∀ {l:List Int} {p:Int},(∀ q,q∈l→p < q∧q≤5)→l.Pairwise (· < ·)→zak p l=true
 | [],p,_,_=>rfl
 | q::l,p,h1,h2=>by
  have hq:=h1 q (List.mem_cons_self ..)
  rw[List.pairwise_cons] at h2
  simp only[zak,yy7,decide_eq_true_eq]
  exact ⟨hq,z7n (fun x hx=>⟨h2.1 x hx,(h1 x (List.mem_cons_of_mem _ hx)).2⟩) h2.2⟩
theorem z9s:∀ {l m:List Int},l.Pairwise (· < ·)→m.Pairwise (· < ·)→(∀ p,p∈l↔p∈m)→l=m
 | [],[],_,_,_=>rfl
 | [],b::m,_,_,h=>by have:=(h b).2 (List.mem_cons_self ..);cases this
 | a::l,[],_,_,h=>by have:=(h a).1 (List.mem_cons_self ..);cases this
 | a::l,b::m,hl,hm,h=>by
  rw[List.pairwise_cons] at hl hm
  have hab:a=b:=by
   rcases List.mem_cons.1 ((h a).1 (List.mem_cons_self ..)) with h1 | h1
   ·exact h1
   ·rcases List.mem_cons.1 ((h b).2 (List.mem_cons_self ..)) with h2 | h2
    ·exact h2.symm
    ·have k1:=hm.1 a h1
     have k2:=hl.1 b h2
     omega
  subst hab
  congr 1
  refine z9s hl.2 hm.2 fun p=>⟨fun hp=>?_,fun hp=>?_⟩
  ·rcases List.mem_cons.1 ((h p).1 (List.mem_cons_of_mem _ hp)) with h1 | h1
   ·have:=hl.1 p hp;omega
   ·exact h1
  ·rcases List.mem_cons.1 ((h p).2 (List.mem_cons_of_mem _ hp)) with h1 | h1
   ·have:=hm.1 p hp;omega
   ·exact h1
theorem zan2 (a b:Int):zm6 a b=some (decide (a < b)):=by
 have h:∀ x,zfd x=some false:=fun x=>by rw[zfd,zm5,Tr.rl];simp
 rw[zm6,zoy,Tr.rb (h a),Tr.rg (fun e=>by cases e),Tr.rl]
 simp
theorem zabm (x:Int):zbe x=some false:=by rw[zbe,zi1,Tr.rl];simp
theorem z9t {l:List Int} (h:l.Pairwise (· < ·)) {x y:Nat} (hxy:x < y) (hy:y < l.length):l.getD x 0 < l.getD y 0:=by
 have:=List.pairwise_iff_getElem.1 h x y (by omega) hy hxy
 rw[yy0,yy0,yy3 hy,yy3 (show x < l.length by omega)]
 exact this
def z7o (l:List Int) (v k:Int):Prop:=0≤k∧k≤l.length∧(∀ x:Nat,(x:Int) < k→l.getD x 0 < v)∧(∀ x:Nat,k≤x→x < l.length→v≤l.getD x 0)
theorem zagh {l:List Int} (hs:l.Pairwise (· < ·)) (hl:l.length≤1000) (v:Int) :
  ∃ k,zfe l v l.length 0 l.length=some (l,v,(l.length:Int),k)∧z7o l v k:=by
 have:=zp8 (F:=fun s:(List Int)×Int×Int×Int×Int=>(zbf s.1 s.2.1 s.2.2.1 s.2.2.2.1 s.2.2.2.2).run)
  (fun s=>s.1=l∧s.2.1=v∧s.2.2.1=l.length∧(0≤s.2.2.2.1∧s.2.2.2.1≤s.2.2.2.2∧s.2.2.2.2≤l.length)∧(∀ x:Nat,(x:Int) < s.2.2.2.1→l.getD x 0 < v)∧(∀ x:Nat,s.2.2.2.2≤x→x < l.length→v≤l.getD x 0))
  (fun s=>(s.2.2.2.2 - s.2.2.2.1).toNat) (fun s r=>∃ k,r=(l,v,(l.length:Int),k)∧z7o l v k) ?_ (l,v,(l.length:Int),0,(l.length:Int)) ⟨rfl,rfl,rfl,⟨by simp,by simp,by simp⟩,by intro x hx;simp only[] at hx;omega,by intro x hx h2;simp only[] at hx;omega⟩
 ·obtain ⟨r,h1,k,rfl,h3⟩:=this
  exact ⟨k,h1,h3⟩
 ·rintro ⟨x0,x1,x2,i,j⟩ ⟨h1,h2,h3,⟨h4,h5,h6⟩,h7,h8⟩
  simp only at h1 h2 h3 h4 h5 h6 h7 h8
  rw[h1,h2,h3] at *
  simp only[zbf]
  by_cases hc:i < j
  ·have hm:i64.wrap (Int.fdiv (u64.wrap (i64.wrap (i+j))) (2 ^ 1))=(i+j) / 2:=by
    rw[zk (x:=i+j) (by omega) (by omega),zafe (by omega) (by omega),Int.fdiv_eq_ediv_of_nonneg _ (by decide),zk (by omega) (by omega)]
    rfl
   rw[hm]
   generalize hmm:(i+j) / 2=m
   have m1:i≤m:=by omega
   have m2:m < j:=by omega
   rw[Tr.rt (by simpa using hc),Tr.rg (by decide),Tr.rg ⟨by omega,by show m < (l.length:Nat);omega⟩,Tr.rb (zan2 _ _)]
   by_cases hlt:l.getD m.toNat 0 < v
   ·refine .inl ⟨(l,v,(l.length:Int),m+1,j),by rw[Tr.rt (by simpa using hlt),Tr.rl,zk (by omega) (by omega)],⟨rfl,rfl,rfl,⟨by simp only[];omega,by simp only[];omega,by simp only[];omega⟩,?_,h8⟩,by simp only[];omega,fun r hr=>hr⟩
    intro x hx
    simp only[] at hx
    by_cases hxm:x=m.toNat
    ·rw[hxm];exact hlt
    ·have:=z9t hs (x:=x) (y:=m.toNat) (by omega) (by omega)
     omega
   ·refine .inl ⟨(l,v,(l.length:Int),i,m),by rw[Tr.rf (by simpa using hlt),Tr.rl],⟨rfl,rfl,rfl,⟨by simp only[];omega,by simp only[];omega,by simp only[];omega⟩,h7,?_⟩,by simp only[];omega,fun r hr=>hr⟩
    intro x hx hx2
    simp only[] at hx
    by_cases hxm:x=m.toNat
    ·rw[hxm];omega
    ·have:=z9t hs (x:=m.toNat) (y:=x) (by omega) hx2
     omega
  ·refine .inr ⟨(l,v,(l.length:Int),i),by rw[Tr.rf (by simpa using hc),Tr.rl],i,rfl,h4,by omega,h7,fun x hx=>h8 x (by omega)⟩
theorem zagi {l:List Int} (hs:l.Pairwise (· < ·)) (hl:l.length≤1000) (v:Int):∃ k,zp l v=some (k,decide (v∈l))∧z7o l v k:=by
 obtain ⟨k,h1,h2⟩:=zagh hs hl v
 refine ⟨k,?_,h2⟩
 obtain ⟨k0,k1,k2,k3⟩:=h2
 have hin:decide (k < (l.length:Int))=true→(0:Int)≤k∧k < ((Sl.len (.ints l):Nat):Int):=fun h=>⟨k0,by simpa[Sl.len] using h⟩
 rw[zp,zd0,Tr.rb h1]
 simp only[]
 rw[Tr.rg (fun h=>⟨hin h,trivial⟩),Tr.rg (fun _ h=>⟨hin h,trivial⟩),Tr.rg (fun _ _=>⟨by rw[zabm];rfl,trivial⟩),Tr.rg (fun _ _ _=>⟨by rw[zabm];rfl,trivial⟩),Tr.rl,zabm,zabm]
 simp only[yy2,Bool.and_false,Bool.or_false]
 congr 2
 rw[Bool.eq_iff_iff]
 simp only[yy7,decide_eq_true_eq,beq_iff_eq]
 constructor
 ·rintro ⟨hk,he⟩
  rw[← he]
  exact zgj (by omega) 0
 ·intro hv
  obtain ⟨x,hx,he⟩:=List.getElem_of_mem hv
  have hg:l.getD x 0=v:=by rw[yy0,yy3 hx];exact he
  have hkx:k≤x:=by
   rcases Int.lt_or_le (x:Int) k with h | h
   ·have:=k2 x h;omega
   ·exact h
  refine ⟨by omega,?_⟩
  have h3:=k3 k.toNat (by omega) (by omega)
  by_cases hxk:x=k.toNat
  ·rw[← hxk];exact hg
  ·have:=z9t hs (x:=k.toNat) (y:=x) (by omega) hx
   omega
def insD (l:List Int) (v:Int):List Int:=((List.range 6).map (fun (u:Nat)=>(u:Int))).filter (fun u=>u==v||decide (u∈l))
theorem range_pw:((List.range 6).map (fun (u:Nat)=>(u:Int))).Pairwise (· < ·):=by decide
theorem z9u (l:List Int) (v:Int):(insD l v).Pairwise (· < ·):=range_pw.sublist List.filter_sublist
theorem zac9 {u:Int}:u∈(List.range 6).map (fun (u:Nat)=>(u:Int))↔0≤u∧u≤5:=by
 rw[List.mem_map]
 constructor
 ·rintro ⟨x,hx,rfl⟩;rw[List.mem_range] at hx;omega
 ·intro h;exact ⟨u.toNat,by rw[List.mem_range];omega,by omega⟩
theorem mem_insD {l:List Int} {v u:Int}:u∈insD l v↔(0≤u∧u≤5)∧(u=v∨u∈l):=by
 unfold insD;rw[List.mem_filter,zac9];simp
theorem zagk (l:List Int) (v:Int):zak (-1) (insD l v)=true:=z7n (fun q hq=>by have:=(mem_insD.1 hq).1;omega) (z9u l v)
theorem zan3 {l:List Int} {v:Int} (h:zak (-1) l=true) (hv:v∈l):insD l v=l:=by
 obtain ⟨h1,h2⟩:=zwy h
 refine z9s (z9u l v) h2 fun u=>?_
 rw[mem_insD]
 constructor
 ·rintro ⟨_,rfl | h⟩<;>assumption
 ·intro hu;have:=h1 u hu;exact ⟨by omega,.inr hu⟩
theorem zajs {l:List Int} {v k:Int} (h:zak (-1) l=true) (hv:v∉l) (hv5:0≤v∧v≤5) (hk:z7o l v k):l.take k.toNat++[v]++l.drop k.toNat=insD l v:=by
 obtain ⟨h1,h2⟩:=zwy h
 obtain ⟨k0,k1,k2,k3⟩:=hk
 have htake:∀ x,x∈l.take k.toNat→x < v:=by
  intro x hx
  obtain ⟨i,hi,rfl⟩:=List.getElem_of_mem hx
  rw[List.length_take] at hi
  have:=k2 i (by omega)
  rw[yy0,yy3 (by omega)] at this
  rw[List.getElem_take];exact this
 have hdrop:∀ x,x∈l.drop k.toNat→v < x:=by
  intro x hx
  have hm:x∈l:=List.mem_of_mem_drop hx
  obtain ⟨i,hi,rfl⟩:=List.getElem_of_mem hx
  rw[List.length_drop] at hi
  have:=k3 (k.toNat+i) (by omega) (by omega)
  rw[yy0,yy3 (by omega)] at this
  rw[List.getElem_drop] at hm ⊢
  have hne:l[k.toNat+i]≠v:=fun e=>hv (e ▸ hm)
  have h3:v≤l[k.toNat+i]:=this
  omega
 refine z9s ?_ (z9u l v) fun u=>?_
 ·rw[List.append_assoc,List.pairwise_append]
  refine ⟨h2.sublist (List.take_sublist _ _),?_,?_⟩
  ·rw[List.singleton_append,List.pairwise_cons]
   exact ⟨hdrop,h2.sublist (List.drop_sublist _ _)⟩
  ·intro a ha b hb
   rw[List.singleton_append] at hb
   rcases List.mem_cons.1 hb with rfl | hb
   ·exact htake a ha
   ·have:=htake a ha;have:=hdrop b hb;omega
 ·rw[mem_insD,List.append_assoc,List.mem_append,List.singleton_append,List.mem_cons]
  constructor
  ·rintro (hu | rfl | hu)
   ·have hm:=List.mem_of_mem_take hu
    have:=h1 u hm
    exact ⟨by omega,.inr hm⟩
   ·exact ⟨hv5,.inl rfl⟩
   ·have hm:=List.mem_of_mem_drop hu
    have:=h1 u hm
    exact ⟨by omega,.inr hm⟩
  ·rintro ⟨_,rfl | hu⟩
   ·exact .inr (.inl rfl)
   ·rw[← List.take_append_drop k.toNat l,List.mem_append] at hu
    exact hu.imp id .inr
def zxt (p:za) (v:Int):Int:=if (i64.wrap (Int.tdiv (p.Stake.Validators.Tokens.get v) 100)) > 1 then (i64.wrap (Int.tdiv (p.Stake.Validators.Tokens.get v) 100)) else 1
def zagl (p:za) (c v:Int):za:={ p with Links:={ p.Links with Done:=p.Links.Done.set c (insD (p.Links.Done.get c) v) } }
def zax9 (p:za) (a:Asked):Int:=if (p.Links.Base.get a.C) > a.P.Id then (p.Links.Base.get a.C) else a.P.Id
def z5h (p:za) (a:Asked):za×Bool :=
 if a.P.Kind=2 then ({ p with Stake:=zn6 p.Stake a.C a.P.Id },true)
 else if a.P.Kind=4 then (if p.Stake.Validators.Dead.get a.P.V=true then (p,true) else ({ p with Stake:=(zb0 (zgn p.Stake a.P.V (zax9 p a) 50).1 a.P.V 2).1 },true))
 else if p.Stake.Validators.Jailed.get a.P.V=true then (zagl p a.C a.P.V,true)
 else if (z9r p.Meter (zxt p a.P.V)).2=true then (zagl { p with Stake:=(zb0 p.Stake a.P.V 0).1,Meter:=(z9r p.Meter (zxt p a.P.V)).1 } a.C a.P.V,true)
 else (p,false)
structure zagm (p:za) (a:Asked):Prop where
 v:0≤a.P.V∧a.P.V≤5
 c:0≤a.C∧a.C < 2
 k:a.P.Kind=2∨a.P.Kind=3∨a.P.Kind=4
 w:p.Stake.Waits.length*64≤140737488351232
 d:zak (-1) (p.Links.Done.get a.C)=true
theorem zni {α:Type} (a:A2 α) {c:Int} (hc:0≤c∧c < 2):a.set c (a.get c)=a:=by
 rcases (show c=0∨c=1 by omega) with rfl | rfl<;>rfl
theorem zzc {l:List Int} (h:zak (-1) l=true):l.length≤6:=by
 have:=zs7 h (by omega);omega
theorem zagn {p:za} {a:Asked} (hf:zagm p a) (hv:a.P.V∈p.Links.Done.get a.C):zagl p a.C a.P.V=p:=by
 unfold zagl
 rw[zan3 hf.d hv,zni _ hf.c]
theorem zago {l:List Int} {k v:Int} (hl:l.length≤6) (hk:z7o l v k):zbp l k [v]=some (l.take k.toNat++[v]++l.drop k.toNat):=by
 unfold zbp insP
 rw[if_pos ⟨hk.1,hk.2.1,by simp,by simp;omega⟩]
theorem zan4 {p:za} {a:Asked} (hf:zagm p a):zlb a p=some ((z5h p a).2,(z5h p a).1):=by
 obtain ⟨hv,hc,hk,hw,hd⟩:=hf
 have hl:=zzc hd
 obtain ⟨pk,hs,hpl⟩:=zagi (zwy hd).2 (by omega) a.P.V
 have hcl:=z6z (l:=p.Links.Done.get a.C) (by omega)
 have hin:=zago hl hpl
 have hmem:(!decide (a.P.V∈p.Links.Done.get a.C))=true→(p.Links.Done.get a.C).take pk.toNat++[a.P.V]++(p.Links.Done.get a.C).drop pk.toNat=insD (p.Links.Done.get a.C) a.P.V:=by
  intro h
  exact zajs hd (by simpa using h) hv hpl
 rw[zlb,zm7,Tr.rg ⟨by omega,by omega⟩,Tr.rg hc]
 unfold z5h
 by_cases k2:a.P.Kind=2
 ·rw[Tr.rt (by simpa using k2),Tr.rg (by rw[zxp hw];rfl),Tr.rl,zxp hw,if_pos k2];rfl
 ·rw[Tr.rf (by simpa using k2),if_neg k2]
  by_cases k4:a.P.Kind=4
  ·rw[if_pos k4,Tr.rf (by rw[k4];decide),Tr.rt (by simpa using k4)]
   by_cases hdd:p.Stake.Validators.Dead.get a.P.V=true
   ·rw[if_pos hdd,hdd,zww,Tr.rl]
   ·rw[if_neg hdd,Bool.eq_false_iff.2 hdd,zwx,Tr.rg (by rw[z5c];rfl),z5c]
    simp only[yy2]
    rw[Tr.rg (by rw[z9h];rfl),Tr.rl,z9h];rfl
  ·have k3:a.P.Kind=3:=by omega
   rw[if_neg k4,Tr.rt (by simpa using k3)]
   by_cases hj:p.Stake.Validators.Jailed.get a.P.V=true
   ·rw[if_pos hj,hj,zww,Tr.rg (by rw[hs];rfl),hs]
    simp only[yy2]
    by_cases hm:a.P.V∈p.Links.Done.get a.C
    ·rw[decide_eq_true hm,zww,Tr.rl,zagn ⟨hv,hc,hk,hw,hd⟩ hm]
    ·rw[decide_eq_false hm,zwx,Tr.rg (by rw[hcl];rfl),hcl]
     simp only[yy2]
     rw[Tr.rg (by rw[hin];rfl),Tr.rl,hin,yy2,hmem (by simpa using hm)]
     rfl
   ·rw[if_neg hj,Bool.eq_false_iff.2 hj,zwx,Tr.rg (by decide),Tr.rg (by rw[zabl];rfl),zabl]
    simp only[yy2]
    rw[show (if (i64.wrap (Int.tdiv (p.Stake.Validators.Tokens.get a.P.V) 100)) > 1 then (i64.wrap (Int.tdiv (p.Stake.Validators.Tokens.get a.P.V) 100)) else 1)=zxt p a.P.V from rfl]
    by_cases ht:(z9r p.Meter (zxt p a.P.V)).2=true
    ·rw[if_pos ht,ht,zww,Tr.rg (by rw[zafx];rfl),Tr.rg (by rw[hs];rfl),hs,zafx]
     simp only[yy2]
     by_cases hm:a.P.V∈p.Links.Done.get a.C
     ·rw[decide_eq_true hm,zww,Tr.rl]
      have:=zagn (p:={ p with Stake:=(zb0 p.Stake a.P.V 0).1,Meter:=(z9r p.Meter (zxt p a.P.V)).1 }) (a:=a) ⟨hv,hc,hk,by show (zb0 p.Stake a.P.V 0).1.Waits.length*64≤_;rw[z7d];exact hw,hd⟩ hm
      rw[this]
     ·rw[decide_eq_false hm,zwx,Tr.rg (by rw[hcl];rfl),hcl]
      simp only[yy2]
      rw[Tr.rg (by rw[hin];rfl),Tr.rl,hin,yy2,hmem (by simpa using hm)]
      rfl
    ·rw[if_neg ht,Bool.eq_false_iff.2 ht,zwx,Tr.rl]
def upP (p:za) (S:Stake) (D:A2 (List Int)) (M:Meter):za:={ p with Stake:=S,Links:={ p.Links with Done:=D },Meter:=M }
def DealI (p0 p:za):Prop:=∃ S D M,p=upP p0 S D M∧GoodS S∧zak (-1) D.x0=true∧zak (-1) D.x1=true
theorem DealI.get {p0 p:za} (h:DealI p0 p) {c:Int}:zak (-1) (p.Links.Done.get c)=true:=by
 obtain ⟨S,D,M,rfl,_,h0,h1⟩:=h
 show zak (-1) (D.get c)=true
 unfold A2.get;split<;>assumption
theorem DealI.good {p0 p:za} (h:DealI p0 p):GoodS p.Stake:=by obtain ⟨S,D,M,rfl,h,_⟩:=h;exact h
theorem zagp {p0:za} {S:Stake} {D:A2 (List Int)} {M:Meter} {c v:Int} (h0:zak (-1) D.x0=true) (h1:zak (-1) D.x1=true):∃ D',zagl (upP p0 S D M) c v=upP p0 S D' M∧zak (-1) D'.x0=true∧zak (-1) D'.x1=true:=by
 refine ⟨D.set c (insD (D.get c) v),rfl,?_,?_⟩
 ·show zak (-1) (if c=0 then insD (D.get c) v else D.x0)=true
  split
  ·exact zagk _ _
  ·exact h0
 ·show zak (-1) (if c=1 then insD (D.get c) v else D.x1)=true
  split
  ·exact zagk _ _
  ·exact h1
theorem zsw {s:Stake} (hg:GoodS s) (v h f:Int):GoodS (zgn s v h f).1:=(zac2 hg v h f).1
theorem zq2 {s:Stake} (hg:GoodS s) (v:Int) {what:Int} (hw:what=0∨what=1∨what=2):GoodS (zb0 s v what).1:=(zac1 hg v hw).1
theorem zabn {p0 p:za} (h:DealI p0 p) (a:Asked):DealI p0 (z5h p a).1:=by
 obtain ⟨S,D,M,rfl,hS,h0,h1⟩:=h
 unfold z5h
 split
 ·exact ⟨zn6 S a.C a.P.Id,D,M,rfl,zyd hS,h0,h1⟩
 ·split
  ·split
   ·exact ⟨S,D,M,rfl,hS,h0,h1⟩
   ·exact ⟨_,D,M,rfl,zq2 (zsw hS _ _ _) _ (.inr (.inr rfl)),h0,h1⟩
  ·split
   ·obtain ⟨D',e,k0,k1⟩:=zagp (p0:=p0) (S:=S) (M:=M) (c:=a.C) (v:=a.P.V) h0 h1
    exact ⟨S,D',M,e,hS,k0,k1⟩
   ·split
    ·obtain ⟨D',e,k0,k1⟩:=zagp (p0:=p0) (S:=(zb0 S a.P.V 0).1) (M:=(z9r M (zxt (upP p0 S D M) a.P.V)).1) (c:=a.C) (v:=a.P.V) h0 h1
     exact ⟨_,D',_,e,zq2 hS _ (.inl rfl),k0,k1⟩
    ·exact ⟨S,D,M,rfl,hS,h0,h1⟩
def z5i (t:za×A2 Bool×List Asked) (a:Asked):za×A2 Bool×List Asked :=
 if t.2.1.get a.C=true then (t.1,t.2.1.set a.C true,t.2.2++[a])
 else if (z5h t.1 a).2=true then ((z5h t.1 a).1,t.2.1,t.2.2)
 else ((z5h t.1 a).1,t.2.1.set a.C true,t.2.2++[a])
def z9v (p0:za) (i:Nat) (t:za×A2 Bool×List Asked):Prop :=
 DealI p0 t.1∧t.2.2.length≤i∧(∀ c:Int,0≤c∧c < 2→t.2.1.get c=t.2.2.any (fun b=>b.C==c))∧∀ b,b∈t.2.2→b∈p0.Queue
theorem zaj {α:Type} (a:A2 α) {i j:Int} (y:α) (hi:0≤i∧i < 2) (hj:0≤j∧j < 2):(a.set i y).get j=if j=i then y else a.get j:=by
 rcases (show i=0∨i=1 by omega) with rfl | rfl<;>rcases (show j=0∨j=1 by omega) with rfl | rfl<;>rfl
theorem zabo {p0:za} {i:Nat} {t:za×A2 Bool×List Asked} (h:z9v p0 i t) {a:Asked} (hc:0≤a.C∧a.C < 2) (ha:a∈p0.Queue):z9v p0 (i+1) (z5i t a):=by
 obtain ⟨h1,h2,h3,h4⟩:=h
 have more:∀ p,DealI p0 p→z9v p0 (i+1) (p,t.2.1.set a.C true,t.2.2++[a]):=by
  intro p hp
  refine ⟨hp,by simp;omega,fun c hcc=>?_,fun b hb=>?_⟩
  ·show (t.2.1.set a.C true).get c=(t.2.2++[a]).any (fun b=>b.C==c)
   rw[zaj _ _ hc hcc,List.any_append]
   by_cases e:c=a.C
   ·rw[if_pos e];simp[e]
   ·rw[if_neg e,h3 c hcc];simp[Ne.symm e]
  ·rcases List.mem_append.1 hb with hb | hb
   ·exact h4 b hb
   ·rw[List.mem_singleton.1 hb];exact ha
 unfold z5i
 split
 ·exact more _ h1
 ·split
  ·exact ⟨zabn h1 a,by simp only[];omega,h3,h4⟩
  ·exact more _ (zabn h1 a)
theorem zan5 {p0 p:za} (hp:DealI p0 p) {q:za} {a:Asked} (ha:zto q a=true):zagm p a:=by
 unfold zto at ha
 simp only[yy7,decide_eq_true_eq,beq_iff_eq,Bool.not_eq_true',beq_eq_false_iff_ne] at ha
 obtain ⟨⟨⟨⟨c0,c1⟩,_⟩,hg⟩,hk⟩:=ha
 have hf:=zmb hg
 exact ⟨⟨hf.2.2.2.2.1,hf.2.2.2.2.2.1⟩,⟨c0,c1⟩,by omega,hp.good.fit,hp.get⟩
theorem zajt {p0:za} {q:za} {now:Int} {d:za} {l:List Asked} {p:za} (hp:DealI p0 p) (hl:l.length*88≤140737488351232) (ha:∀ a,a∈l→zto q a=true∧a∈p0.Queue) :
  zft now l l.length 0 p d ⟨false,false⟩ []=some (now,(l.foldl z5i (p,⟨false,false⟩,[])).1,d,(l.foldl z5i (p,⟨false,false⟩,[])).2.2):=by
 rw[zft]
 have:=zi5 (F:=fun s:Int×(List Asked)×Int×Int×za×za×(A2 Bool)×(List Asked)=>(zel s.1 s.2.1 s.2.2.1 s.2.2.2.1 s.2.2.2.2.1 s.2.2.2.2.2.1 s.2.2.2.2.2.2.1 s.2.2.2.2.2.2.2).run) l default
  (fun i (t:za×A2 Bool×List Asked)=>(now,l,(l.length:Int),(i:Int),t.1,d,t.2.1,t.2.2)) (z9v p0) z5i (fun t=>(now,t.1,d,t.2.2)) (by
   intro t _
   simp only[zel]
   rw[Tr.rf (by simp),Tr.rl]) (by
   intro i t hi hI
   obtain ⟨a1,a2⟩:=ha _ (zgj (l:=l) (k:=i) hi default)
   have hfit:=zan5 hI.1 a1
   refine ⟨?_,zabo hI hfit.c a2⟩
   have hlen:=hI.2.1
   simp only[zel,yy4]
   rw[Tr.rt (by simpa using hi),Tr.rg ⟨by omega,by show (i:Int) < (l.length:Nat);omega⟩,Tr.rg hfit.c]
   unfold z5i
   by_cases hw:t.2.1.get (l.getD i default).C=true
   ·rw[if_pos hw,Tr.rt hw,Tr.rt (show true=true from rfl),Tr.rt (show true=true from rfl),Tr.rt (show true=true from rfl)]
    rw[Tr.rg hfit.c,Tr.rg (by show (t.2.2.length+1)*88≤_;omega),Tr.rl,zx (by omega)]
   ·rw[if_neg hw,Tr.rf (Bool.eq_false_iff.2 hw),Tr.rb (zan4 hfit)]
    simp only[]
    by_cases hd:(z5h t.1 (l.getD i default)).2=true
    ·rw[if_pos hd,Tr.rf (by rw[hd];rfl),Tr.rl,zx (by omega)]
    ·rw[if_neg hd,Tr.rt (by rw[Bool.eq_false_iff.2 hd];rfl),Tr.rg hfit.c,Tr.rg (by show (t.2.2.length+1)*88≤_;omega),Tr.rl,zx (by omega)]) (p,⟨false,false⟩,[]) ⟨hp,by simp,fun c hc=>by rcases (show c=0∨c=1 by omega) with rfl | rfl<;>rfl,fun b hb=>by cases hb⟩
 exact this
def dOf (p:za) (c:Int):List Power:=zn5 (fP (p.Links.Told.get c)) (fP p.Set)
def pkOf (p:za) (c:Int):Packet:=⟨1,p.Height,0,0,dOf p c,p.Links.Done.get c⟩
def znn (p:za) (c now:Int):zid×Int:=z4w (zhe p.Links c) (zf9 (pkOf p c)).1 (now+40)
def zaju (p:za) (c now:Int):za :=
 { p with Links:={ p.Links with Told:=p.Links.Told.set c p.Set,Fresh:=p.Links.Fresh.set c false,Done:=p.Links.Done.set c [],Said:=p.Links.Said.set c (znn p c now).1.Said,Due:=p.Links.Due.set c (znn p c now).1.Due,Got:=p.Links.Got.set c (znn p c now).1.Got,Closed:=p.Links.Closed.set c (znn p c now).1.Closed } }
def zyf (p:za) (c:Int):Prop:=p.Links.On.get c=false∨(dOf p c=[]∧p.Links.Done.get c=[]∧p.Links.Fresh.get c=false)
instance (p:za) (c:Int):Decidable (zyf p c):=by
 have:Decidable (dOf p c=[]):=decidable_of_iff ((dOf p c).length=0) List.length_eq_zero_iff
 have:Decidable (p.Links.Done.get c=[]):=decidable_of_iff ((p.Links.Done.get c).length=0) List.length_eq_zero_iff
 exact inferInstanceAs (Decidable (_∨_))
def zdt (p:za) (c now:Int):za :=
 if zyf p c then p else if (zf9 (pkOf p c)).2≠0 then p else if (znn p c now).2≠0 then p else zaju p c now
structure z5j (p:za) (c:Int):Prop where
 t:(p.Links.Told.get c).length≤9223372036854775807
 s:p.Set.length≤6
 d:(p.Links.Done.get c).length≤6
 u:(p.Links.Due.get c).length≤9223372036854775807
theorem quiet_iff {p:za} {c:Int}:zyf p c↔p.Links.On.get c=false∨((dOf p c).length=0∧(p.Links.Done.get c).length=0∧p.Links.Fresh.get c=false):=by
 unfold zyf;rw[List.length_eq_zero_iff,List.length_eq_zero_iff]
theorem zvd {l:List Power} (h:l.length≤6):zah l=some l:=by
 rw[zah,zdd]
 refine Tr.run_split (fun h0=>?_) (fun _=>?_) (.inr trivial)
 ·rw[Tr.rl,List.length_eq_zero_iff.1 h0]
 ·rw[Tr.rg (by simp only[zar,List.length_nil];omega),Tr.rl]
theorem zagq {p:za} {c now:Int} (hf:z5j p c) (hc:0≤c∧c < 2) (hn:0≤now∧now≤1099511627776):zhk c now p=some (zdt p c now):=by
 obtain ⟨ft,fs,fd,fu⟩:=hf
 have hdl:(dOf p c).length≤6:=zaco _ _
 have hD:zdp (p.Links.Told.get c) p.Set=some (dOf p c):=zaje ft (by omega)
 have hE:za7 (⟨1,p.Height,0,0,dOf p c,p.Links.Done.get c⟩:Packet)=some (zf9 (pkOf p c)):=z0r (by show (dOf p c).length*16≤_;omega) (by show (p.Links.Done.get c).length*8≤_;omega)
 rw[zhk,zm4,Tr.rg hc,Tr.rg (by rw[hD];rfl),hD]
 simp only[yy2]
 unfold zdt
 by_cases hq:zyf p c
 ·rw[if_pos hq,Tr.rt (by
   rw[quiet_iff] at hq
   simp only[Bool.or_eq_true,yy7,Bool.not_eq_true',beq_iff_eq]
   rcases hq with h | ⟨h1,h2,h3⟩
   ·exact .inl h
   ·exact .inr ⟨⟨by omega,h3⟩,by omega⟩),Tr.rl]
 ·rw[if_neg hq,Tr.rf (by
   rw[Bool.eq_false_iff]
   intro h
   simp only[Bool.or_eq_true,yy7,Bool.not_eq_true',beq_iff_eq] at h
   refine hq (quiet_iff.2 ?_)
   rcases h with h | ⟨⟨h1,h2⟩,h3⟩
   ·exact .inl h
   ·exact .inr ⟨by omega,by omega,h2⟩),Tr.rg (by rw[hE];rfl),hE]
  simp only[yy2]
  by_cases he:(zf9 (pkOf p c)).2≠0
  ·rw[if_pos he,Tr.rt (by simpa using he),Tr.rl]
  ·rw[if_neg he,Tr.rf (by simpa using he),zk (x:=now+40) (by omega) (by omega),Tr.rb (zak1 _ _ _)]
   by_cases hs:(znn p c now).2≠0
   ·rw[if_pos hs,Tr.rt (by simpa[znn] using hs),Tr.rl]
   ·rw[if_neg hs,Tr.rf (by simpa[znn] using hs),Tr.rg (by rw[zvd fs];rfl),Tr.rl,zvd fs]
    rfl
def zt9 (p:za) (now:Int):za:={ p with Height:=p.Height+1,Time:=now,Meter:=zac7 p.Meter (allP p.Set) now }
def zfu (p:za) (now:Int):za×A2 Bool×List Asked:=p.Queue.foldl z5i (zt9 p now,⟨false,false⟩,[])
def zl6 (p:za) (now:Int):za :=
 { (zfu p now).1 with Stake:=(z24 (zfu p now).1.Stake now).1,Set:=setS (z24 (zfu p now).1.Stake now).1,Queue:=(zfu p now).2.2 }
def zif (p:za) (now:Int):za×List Int×Int :=
 if zal p=true∧p.Time≤now∧now≤1099511627776 then (zdt (zdt (zl6 p now) 0 now) 1 now,(z24 (zfu p now).1.Stake now).2.1,0) else (p,[],2)
theorem zabp (l:List Power):i6 (allP l):=by
 have:∀ (l:List Power) (t:Int),i6 t→i6 (l.foldl (fun t p=>i64.wrap (t+p.N)) t):=by
  intro l
  induction l with
  | nil=>intro t ht;exact ht
  | cons q l ih=>intro t _;exact ih _ (by show i6 (i64.wrap (t+q.N));rw[IntKind.wrap_i64];unfold i6;omega)
 exact this l 0 (by unfold i6;omega)
theorem z7p {p:za} {now:Int} (hg:zal p=true):DealI (zt9 p now) (zt9 p now):=by
 obtain ⟨g1,_,_,k0,k1,_⟩:=zh1 hg
 unfold z7j at k0 k1
 simp only[yy7] at k0 k1
 exact ⟨p.Stake,p.Links.Done,zac7 p.Meter (allP p.Set) now,rfl,g1,k0.2,k1.2⟩
theorem zabq {p0:za}:∀ (l:List Asked) (i:Nat) (t:za×A2 Bool×List Asked),z9v p0 i t→(∀ a,a∈l→(0≤a.C∧a.C < 2)∧a∈p0.Queue)→z9v p0 (i+l.length) (l.foldl z5i t)
 | [],i,t,h,_=>h
 | a::l,i,t,h,ha=>by
  have:=zabq l (i+1) (z5i t a) (zabo h (ha a (List.mem_cons_self ..)).1 (ha a (List.mem_cons_self ..)).2) (fun b hb=>ha b (List.mem_cons_of_mem _ hb))
  rw[List.foldl_cons,List.length_cons,show i+(l.length+1)=i+1+l.length by omega]
  exact this
theorem zagr {p:za} (hg:zal p=true):∀ a,a∈p.Queue→zto p a=true∧(0≤a.C∧a.C < 2):=by
 intro a ha
 have h:=List.all_eq_true.1 (zh1 hg).2.2.2.2.2 a ha
 refine ⟨h,?_⟩
 unfold zto at h
 simp only[yy7,decide_eq_true_eq] at h
 exact h.1.1.1
theorem z08 {p:za} {now:Int} (hg:zal p=true):z9v (zt9 p now) p.Queue.length (zfu p now):=by
 have:=zabq (p0:=zt9 p now) p.Queue 0 (zt9 p now,⟨false,false⟩,[]) ⟨z7p hg,by simp,fun c hc=>by rcases (show c=0∨c=1 by omega) with rfl | rfl<;>rfl,fun b hb=>by cases hb⟩ (fun a ha=>⟨(zagr hg a ha).2,ha⟩)
 rwa [Nat.zero_add] at this
theorem zabr {p:za} (hf:FitPr 140737488351232 p) {now:Int} (hg:zal p=true) (c:Int):z5j (zl6 p now) c:=by
 have hq:=z08 (now:=now) hg
 obtain ⟨S,D,M,e,hS,d0,d1⟩:=hq.1
 have ht:=hf.told c
 have hu:=hf.due c
 refine ⟨?_,z0n _,?_,?_⟩
 ·show ((zfu p now).1.Links.Told.get c).length≤_
  rw[e];show (p.Links.Told.get c).length≤_;omega
 ·show ((zfu p now).1.Links.Done.get c).length≤6
  exact zzc hq.1.get
 ·show ((zfu p now).1.Links.Due.get c).length≤_
  rw[e];show (p.Links.Due.get c).length≤_;omega
theorem zajv {p:za} {now:Int} (h:z5j p 1):z5j (zdt p 0 now) 1:=by
 unfold zdt
 split
 ·exact h
 ·split
  ·exact h
  ·split
   ·exact h
   ·exact ⟨h.t,h.s,h.d,h.u⟩
theorem zabs {p:za} {now:Int}:(((!zal p)||(decide (now < p.Time)))||(decide (now > 1099511627776))) = !decide (zal p=true∧p.Time≤now∧now≤1099511627776):=by
 rw[Bool.eq_iff_iff]
 simp only[Bool.or_eq_true,Bool.not_eq_true',decide_eq_true_eq,yy8]
 cases zal p<;>simp<;>omega
theorem zada {p:za} (hf:FitPr 140737488351232 p) {now:Int}:zce p now=some (zif p now):=by
 have hset:=hf.set
 rw[zce,zoz,Tr.rb (zh0 hf)]
 unfold zif
 by_cases hg:zal p=true∧p.Time≤now∧now≤1099511627776
 ·obtain ⟨hg1,hg2⟩:=hg
  have hnum:=(zh1 hg1).2.1
  unfold zye at hnum
  rw[if_pos ⟨hg1,hg2⟩,Tr.rf (by rw[zabs,decide_eq_true ⟨hg1,hg2⟩];rfl),Tr.rg (by rw[zak3 (by omega)];rfl),zak3 (by omega)]
  simp only[yy2]
  rw[Tr.rg (by rw[zabk (zabp _)];rfl),zabk (zabp _),zk (x:=p.Height+1) (by omega) (by omega)]
  simp only[yy2]
  have hloop:=zajt (p0:=zt9 p now) (q:=p) (now:=now) (d:=default) (l:=p.Queue) (p:=zt9 p now) (z7p hg1) hf.queue (fun a ha=>⟨(zagr hg1 a ha).1,ha⟩)
  have hinv:=z08 (now:=now) hg1
  have hgs:GoodS (zfu p now).1.Stake:=hinv.1.good
  have hpay:=zabe hgs now
  have hz:(z24 (zfu p now).1.Stake now).2.2=0:=by rw[zaf8 hgs]
  rw[Tr.rb (show zft now p.Queue ((p.Queue.length:Nat):Int) 0 (⟨p.Height+1,now,p.Stake,p.Set,p.Links,zac7 p.Meter (allP p.Set) now,p.Queue⟩:za) default ⟨false,false⟩ []=some (now,(zfu p now).1,default,(zfu p now).2.2) from hloop)]
  simp only[]
  rw[Tr.rb (show znz (zfu p now).1.Stake now=_ from zar3),Tr.rf (by rw[hz];rfl),Tr.rb (zar6 hpay)]
  have h0:=zagq (now:=now) (zabr hf (now:=now) hg1 0) (by omega) (by omega)
  have h1:=zagq (now:=now) (zajv (now:=now) (zabr hf (now:=now) hg1 1)) (by omega) (by omega)
  rw[Tr.rb (v:=((z24 (zfu p now).1.Stake now).2.1,zdt (zdt (zl6 p now) 0 now) 1 now,default)) (by
   show zi2 now (z24 (zfu p now).1.Stake now).2.1 0 (zl6 p now) default=_
   rw[zi2,zc5 (s':=(now,(z24 (zfu p now).1.Stake now).2.1,((1:Nat):Int),zdt (zl6 p now) 0 now,default)) (by
     simp only[zem]
     rw[Tr.rt (by simp),Tr.rb h0,Tr.rl];rfl),
    zc5 (s':=(now,(z24 (zfu p now).1.Stake now).2.1,((2:Nat):Int),zdt (zdt (zl6 p now) 0 now) 1 now,default)) (by
     simp only[zem]
     rw[Tr.rt (by simp)]
     rw[Tr.rb (show zhk ((1:Nat):Int) now _=_ from h1),Tr.rl];rfl),
    zff (by
     simp only[zem]
     rw[Tr.rf (by simp),Tr.rl])]),Tr.rl]
 ·rw[if_neg hg,Tr.rt (by rw[zabs,decide_eq_false hg];rfl),Tr.rl]
theorem z3e:zal z7l=true:=by decide
theorem zabt {p:za} {c now:Int} (h:p.Links.On.get c=false):zdt p c now=p:=by unfold zdt;rw[if_pos (.inl h)]
theorem zev (l:List Asked):Sl.len (.asked l)=l.length:=rfl
theorem zadb {s:Stake} (hg:GoodS s) {v h:Int} (hv:0≤v∧v < 6):(zgn s v h 50).2.2=0:=by
 unfold zgn
 rw[if_neg (by rw[z28 hg (by omega) hv];simp),if_neg (by omega)]
theorem zags {s:Stake} (hg:GoodS s) {v:Int} (hv:0≤v∧v < 6) (hd:s.Validators.Dead.get v=false):(zb0 s v 2).2=0:=by
 unfold zb0
 rw[if_neg (by rw[z28 hg (by omega) hv];simp),if_neg (by omega),if_neg (by rw[hd];simp),if_neg (by omega)]
theorem zadc (s:Stake) (v h f:Int):(zgn s v h f).1.Validators.Dead=s.Validators.Dead:=by
 unfold zgn
 repeat' split
 all_goals rfl
def zsx (p:za) (v h:Int):za×Int :=
 if zal p=false then (p,2) else if 0≤v∧v < 6 then (if 1≤h∧h≤p.Height then (if p.Stake.Validators.Dead.get v=true then (p,15) else ({ p with Stake:=(zb0 (zgn p.Stake v h 50).1 v 2).1 },0)) else (p,2)) else (p,4)
theorem z09 {p:za} (hf:FitPr 140737488351232 p) {v h:Int}:zgs p v h=some (zsx p v h):=by
 rw[zgs,zhw,Tr.rb (zh0 hf)]
 unfold zsx
 cases hg:zal p with
 | false=>rw[zwx,Tr.rl,if_pos rfl]
 | true =>
  rw[zww,if_neg (by simp)]
  by_cases hv:0≤v∧v < 6
  ·rw[Tr.rf (by simp;omega),if_pos hv]
   by_cases hh:1≤h∧h≤p.Height
   ·rw[Tr.rf (by simp;omega),if_pos hh,Tr.rg hv]
    cases hd:p.Stake.Validators.Dead.get v with
    | true=>rw[Tr.rt rfl,Tr.rl,if_pos rfl]
    | false =>
     have hs:=(zh1 hg).1
     rw[Tr.rf rfl,if_neg (by simp),Tr.rb z5c,Tr.rf (by rw[zadb hs hv];rfl),Tr.rb z9h,Tr.rf (by rw[zags (zsw hs v h 50) hv (by rw[zadc];exact hd)];rfl),Tr.rl]
   ·rw[Tr.rt (by simp;omega),Tr.rl,if_neg hh]
  ·rw[Tr.rt (by simp;omega),Tr.rl,if_neg hv]
def zln (p:za) (c:Int) (s:List UInt8):za×Int :=
 if zal p=false then (p,2) else if (0≤c∧c < 2)∧p.Links.On.get c=true then (if (zas s).2≠0 then (p,(zas s).2) else if (zas s).1.Kind=1 then (p,3) else ({ p with Queue:=p.Queue++[⟨c,(zas s).1⟩] },0)) else (p,4)
theorem z3f {l:List Asked} (h:l.length*88≤140737488351232):zan l=some l:=by
 rw[zan,zd9]
 refine Tr.run_split (fun h0=>?_) (fun _=>?_) (.inr trivial)
 ·rw[Tr.rl,List.length_eq_zero_iff.1 h0]
 ·rw[Tr.rg (by simp only[zev,List.length_nil];omega),Tr.rl]
theorem z9w {p:za} (hf:FitPr 140737488351232 p) {c:Int} {a:ByteArray} (ha:a.size≤140737488355328):zax p c a=some (zln p c a.data.toList):=by
 have e1:zef a=some (zas a.data.toList):=z64 (s:=a.data.toList) (by have:a.data.toList.length=a.size:=rfl;omega)
 have hq:=hf.queue
 rw[zax,zm2,Tr.rb e1,Tr.rb (zh0 hf)]
 simp only[z3f hf.queue,Option.isSome_some,yy2]
 unfold zln
 cases hg:zal p with
 | false=>rw[zwx,Tr.rl,if_pos rfl]
 | true =>
  rw[zww,if_neg (by simp),Tr.rg (by
   intro h0
   simp only[Bool.or_eq_false_iff,yy8] at h0
   exact ⟨by omega,trivial⟩)]
  by_cases hc:(0≤c∧c < 2)∧p.Links.On.get c=true
  ·rw[if_pos hc,Tr.rf (by rw[hc.2];simp;omega)]
   by_cases hd:(zas a.data.toList).2=0
   ·rw[Tr.rf (by simpa using hd),if_neg (by simpa using hd)]
    by_cases hk:(zas a.data.toList).1.Kind=1
    ·rw[Tr.rt (by simpa using hk),if_pos hk,Tr.rl]
    ·rw[Tr.rf (by simpa using hk),if_neg hk,Tr.rg (by trivial),Tr.rg (by simp only[zev,yy5];omega),Tr.rl]
   ·rw[Tr.rt (by simpa using hd),if_pos hd,Tr.rl]
  ·rw[if_neg hc,Tr.rt (by
    simp only[Bool.or_eq_true,decide_eq_true_eq,Bool.not_eq_true']
    by_cases h1:0≤c∧c < 2
    ·exact .inr (Bool.eq_false_iff.2 (fun h2=>hc ⟨h1,h2⟩))
    ·exact .inl (by omega)),Tr.rl]
theorem z1a {p:Packet} (h:zct p=0):p.Set.length≤6∧p.Done.length≤6:=by
 obtain ⟨_,_,_,_,_,_,_,_,g9,g10,_⟩:=zmb h
 have l1:=zic g9 (by omega)
 exact ⟨by omega,zzc g10⟩
theorem zabu {s:List UInt8} (h:(zas s).2=0):zct (zas s).1=0:=by
 unfold zas at h ⊢
 split
 ·rename_i k;rw[if_pos k] at h;cases h
 ·rename_i k
  rw[if_neg k] at h
  split
  ·rename_i k2;rw[if_pos k2] at h;exact absurd h k2
  ·rename_i k2;exact Classical.not_not.1 k2
def zgo (L:Links) (c H:Int) (T:List Power) (f:Bool):Links :=
 ⟨L.On.set c true,L.Gone.set c false,L.Base.set c H,L.Told.set c T,L.Fresh.set c f,L.Done.set c [],L.Said.set c [],L.Due.set c [],L.Got.set c 0,L.Closed.set c false,L.SHeight.set c 0,L.STime.set c 0,L.SSaid.set c 0,L.SGot.set c 0⟩
def zlo (p:za) (c:Int) (W:List Wait) (f:Bool):za:={ p with Stake:={ p.Stake with Waits:=W },Links:=zgo p.Links c p.Height p.Set f }
def zhf (c H:Int) (w:Wait):Wait:=if H < w.Height then { w with h0:=if c=0 then w.Height else w.h0,h1:=if c=1 then w.Height else w.h1 } else w
def ztp (p:za):Bool:=p.Stake.Waits.any (fun w=>decide (p.Height < w.Height))
def zdj (p:za) (c:Int):za×Int :=
 if zal p=false then (p,2) else if 0≤c∧c < 2 then (if p.Links.Gone.get c=true then (p,11) else if p.Links.On.get c=true then (p,5) else if p.Height < 1∨p.Set.length=0 then (p,13)
  else (zlo p c (p.Stake.Waits.map (zhf c p.Height)) (ztp p),0)) else (p,4)
theorem zabv {α:Type} (q:α→Bool):∀ (l:List α) (b:Bool),l.foldl (fun t w=>t||q w) b=(b||l.any q)
 | [],b=>by simp
 | a::l,b=>by rw[List.foldl_cons,zabv q l,List.any_cons,Bool.or_assoc]
theorem zadd {α:Type} (a:A2 α) (c:Int) (x y:α):(a.set c x).set c y=a.set c y:=by
 unfold A2.set
 by_cases h:c=0
 ·subst h;rfl
 ·by_cases h1:c=1
  ·subst h1;rfl
  ·simp[h,h1]
theorem zasc {l W:List Wait} {i:Nat} {w:Wait} (hi:i < W.length) (hg:W.getD i default=w):W.set i w=W:=by rw[← hg,z49 hi]
theorem zade {p z:za} {c:Int} (hc:0≤c∧c < 2) (hw:p.Stake.Waits.length*64≤140737488351232) :
  zgr c p.Stake.Waits.length 0 (zlo p c p.Stake.Waits false) z=some (zlo p c (p.Stake.Waits.map (zhf c p.Height)) (ztp p),z):=by
 rw[zgr]
 have:=z5a (F:=fun s:Int×Int×Int×za×za=>(zc3 s.1 s.2.1 s.2.2.1 s.2.2.2.1 s.2.2.2.2).run) p.Stake.Waits default
  (fun i W (f:Bool)=>(c,(p.Stake.Waits.length:Int),(i:Int),zlo p c W f,z)) (fun _ _=>True) (zhf c p.Height) (fun t w=>t||decide (p.Height < w.Height)) (fun W f=>(zlo p c W f,z)) ?_ ?_ false trivial
 ·rw[zabv] at this
  exact this
 ·intro W t hW _
  simp only[zc3];rw[Tr.rf (by simp),Tr.rl]
 ·intro i W t hi hW hg _
  refine ⟨?_,trivial⟩
  simp only[zc3]
  rw[yy4,show (zlo p c W t).Stake.Waits=W from rfl,hg,show (zlo p c W t).Height=p.Height from rfl]
  generalize hw':p.Stake.Waits.getD i default=w at hg ⊢
  rw[Tr.rt (by simpa using hi),Tr.rg ⟨by omega,by rw[zbv];omega⟩]
  by_cases hp:p.Height < w.Height
  ·rw[Tr.rt (by simpa using hp),Tr.rg hc,Tr.rg hc,Tr.rl,zx (by omega)]
   have e:zhf c p.Height w={ w with h0:=if c=0 then w.Height else w.h0,h1:=if c=1 then w.Height else w.h1 }:=if_pos hp
   rw[e,decide_eq_true hp,Bool.or_true]
   rw[show (zlo p c W t).Links.Fresh=p.Links.Fresh.set c t from rfl,zadd]
   rfl
  ·rw[Tr.rf (by simpa using hp),Tr.rl,zx (by omega)]
   have e:zhf c p.Height w=w:=if_neg hp
   rw[e,decide_eq_false hp,Bool.or_false,zasc (l:=W) (by omega) hg]
theorem z7q {p:za} (hf:FitPr 140737488351232 p) {c:Int}:zai p c=some (zdj p c):=by
 rw[zai,zla,Tr.rb (zh0 hf)]
 unfold zdj
 cases hg:zal p with
 | false=>rw[zwx,Tr.rl,if_pos rfl]
 | true =>
  rw[zww,if_neg (by simp)]
  by_cases hc:0≤c∧c < 2
  ·rw[Tr.rf (by simp;omega),if_pos hc,Tr.rg hc]
   cases h1:p.Links.Gone.get c with
   | true=>rw[Tr.rt rfl,Tr.rl,if_pos rfl]
   | false =>
    rw[Tr.rf rfl,if_neg (by simp),Tr.rg hc]
    cases h2:p.Links.On.get c with
    | true=>rw[Tr.rt rfl,Tr.rl,if_pos rfl]
    | false =>
     rw[Tr.rf rfl,if_neg (by simp)]
     have hs:=zic (zh1 hg).2.2.1 (by omega)
     by_cases h3:p.Height < 1∨p.Set.length=0
     ·rw[if_pos h3,Tr.rt (by simp only[Bool.or_eq_true,decide_eq_true_eq,beq_iff_eq];omega),Tr.rl]
     ·have hcl:=zvd (l:=p.Set) (by omega)
      rw[if_neg h3,Tr.rf (by simp only[Bool.or_eq_false_iff,yy8,beq_eq_false_iff_ne];omega),Tr.rg (by rw[hcl];rfl),Tr.rg hc,Tr.rb (zwu hf.waits),hcl,Tr.rb (v:=(zlo p c (p.Stake.Waits.map (zhf c p.Height)) (ztp p),default)) (by exact zade hc hf.waits),Tr.rl]
  ·rw[Tr.rt (by simp;omega),Tr.rl,if_neg hc]
def ztd (L:Links) (c:Int):Links:={ L with On:=L.On.set c false,Gone:=L.Gone.set c true,Fresh:=L.Fresh.set c false,Done:=L.Done.set c [],Closed:=L.Closed.set c true }
def zzd (c:Int) (a:Asked):Bool:=a.C != c
def zq3 (p:za) (c:Int):za:={ p with Stake:=zn6 p.Stake c 1099511627776,Links:=ztd p.Links c,Queue:=p.Queue.filter (zzd c) }
def zq4 (p:za) (c:Int):za:=if zal p=true∧(0≤c∧c < 2)∧p.Links.On.get c=true then zq3 p c else p
theorem zak6 (a:Asked) (c:Int):zd5 a c=some (!zzd c a,c):=by
 rw[zd5,zhu,Tr.rl]
 unfold zzd
 simp[bne]
theorem zj0 {α:Type} {l:List α} {i:Nat} (h:i < l.length) (d:α):l.take (i+1)=l.take i++[l.getD i d]:=by
 rw[List.take_succ_eq_append_getElem h,zpt h]
theorem zadf {l:List Asked} {c:Int} (hl:l.length*88≤140737488351232) :
  ∃ r,zbh l.length 0 c l=some r ∧
   (match r with | .inl y=>∃ k:Nat,y=((k:Int),c,l)∧k < l.length∧(l.take k).all (zzd c)=true∧zzd c (l.getD k default)=false | .inr y=>y=(c,l)∧l.all (zzd c)=true):=by
 rw[zbh]
 have:=zf8 (F:=fun s:Int×Int×Int×(List Asked)=>(zaa s.1 s.2.1 s.2.2.1 s.2.2.2).run) l.length (fun i (_:Unit)=>((l.length:Int),(i:Int),c,l)) (fun i _=>(l.take i).all (zzd c)=true)
  (fun i _ r=>match r with | .inl y=>∃ k:Nat,y=((k:Int),c,l)∧k < l.length∧(l.take k).all (zzd c)=true∧zzd c (l.getD k default)=false | .inr y=>y=(c,l)∧l.all (zzd c)=true) ?_ ?_ 0 () (Nat.zero_le _) rfl
 ·exact this
 ·intro t h
  refine ⟨.inr (c,l),?_,rfl,by rwa [List.take_length] at h⟩
  simp only[zaa];rw[Tr.rf (by simp),Tr.rl]
 ·intro i t hi h
  simp only[zaa]
  rw[yy4,Tr.rt (by simpa using hi),Tr.rg ⟨by omega,by rw[zev];omega⟩,Tr.rb (zak6 _ _)]
  cases hn:zzd c (l.getD i default) with
  | true=>exact .inl ⟨(),by rw[Tr.rf (by rfl),Tr.rl,zx (by omega)],by rw[zj0 hi default,List.all_append,h,List.all_cons,hn];rfl,fun r hr=>hr⟩
  | false=>exact .inr ⟨.inl ((i:Int),c,l),by rw[Tr.rt (by rfl),Tr.rl],i,rfl,hi,h,hn⟩
theorem z9x {l:List Asked} {c:Int} (hl:l.length*88≤140737488351232) {k:Nat} (hk:k < l.length) (ha:(l.take k).all (zzd c)=true) (hn:zzd c (l.getD k default)=false) :
  ∃ r,zbm k ((k+1:Nat):Int) c l=some r∧∃ n:Nat,r.1=n∧r.2.1=c∧n≤l.length∧r.2.2.length=l.length∧r.2.2.take n=l.filter (zzd c):=by
 rw[zbm]
 have:=zf8 (F:=fun s:Int×Int×Int×(List Asked)=>(zaf s.1 s.2.1 s.2.2.1 s.2.2.2).run) l.length (fun i (t:Nat×List Asked)=>((t.1:Int),(i:Int),c,t.2)) (fun i t=>t.1 < i∧t.2.length=l.length∧t.2.take t.1=(l.take i).filter (zzd c)∧t.2.drop i=l.drop i)
  (fun i _ r=>∃ n:Nat,r.1=n∧r.2.1=c∧n≤l.length∧r.2.2.length=l.length∧r.2.2.take n=l.filter (zzd c)) ?_ ?_ (k+1) (k,l) (by omega) ⟨by omega,rfl,?_,rfl⟩
 ·exact this
 ·rintro ⟨n,W⟩ ⟨h1,h2,h3,h4⟩
  simp only at h1 h2 h3 h4
  refine ⟨((n:Int),c,W),?_,n,rfl,rfl,by omega,h2,by rw[h3,List.take_length]⟩
  simp only[zaf];rw[Tr.rf (by simp;omega),Tr.rl]
 ·rintro i ⟨n,W⟩ hi ⟨h1,h2,h3,h4⟩
  simp only at h1 h2 h3 h4
  have hg:W.getD i default=l.getD i default:=by
   have e1:=za2 (l:=W) (k:=i) (by omega) default
   have e2:=za2 (l:=l) (k:=i) hi default
   rw[h4,e2] at e1
   exact (List.cons.inj e1).1.symm
  have hd:W.drop (i+1)=l.drop (i+1):=by
   have e1:=za2 (l:=W) (k:=i) (by omega) default
   have e2:=za2 (l:=l) (k:=i) hi default
   rw[h4,e2] at e1
   exact (List.cons.inj e1).2.symm
  simp only[zaf]
  rw[yy4,yy4,hg,Tr.rt (by simp;omega),Tr.rg ⟨by omega,by rw[zev];omega⟩,Tr.rb (zak6 _ _)]
  cases hq:zzd c (l.getD i default) with
  | true =>
   refine .inl ⟨(n+1,W.set n (l.getD i default)),by rw[Tr.rt (by rfl),Tr.rg ⟨by omega,by rw[zev];omega⟩,Tr.rl,zx (by omega),zx (by omega)],⟨by simp only[];omega,by simp only[List.length_set];exact h2,?_,?_⟩,fun r hr=>hr⟩
   ·simp only[]
    rw[zj0 (by rw[List.length_set];omega) default,List.take_set_of_le (by omega),h3,zj0 hi default,List.filter_append,zpt (by rw[List.length_set];omega),List.getElem_set_self,List.filter_cons,hq]
    rfl
   ·simp only[]
    rw[List.drop_set_of_lt (by omega),hd]
  | false =>
   refine .inl ⟨(n,W),by rw[Tr.rf (by rfl),Tr.rl,zx (by omega)],⟨by simp only[];omega,h2,?_,hd⟩,fun r hr=>hr⟩
   simp only[]
   rw[h3,zj0 hi default,List.filter_append,List.filter_cons,hq]
   simp
 ·simp only[]
  rw[zj0 hk default,List.filter_append,List.filter_cons,hn,List.filter_eq_self.2 (fun a h=>List.all_eq_true.1 ha a h)]
  simp
theorem zadg {l:List Asked} {c:Int} (hl:l.length*88≤140737488351232):zcd c l=some (c,l.filter (zzd c)):=by
 have hi:zaz c l=some (-1,c,l)∧l.all (zzd c)=true∨∃ k:Nat,zaz c l=some ((k:Int),c,l)∧k < l.length∧(l.take k).all (zzd c)=true∧zzd c (l.getD k default)=false:=by
  obtain ⟨r,h1,h2⟩:=zadf (c:=c) hl
  rw[zaz,zcc]
  cases r with
  | inl y =>
   obtain ⟨k,rfl,h3,h4,h5⟩:=h2
   exact .inr ⟨k,by rw[Tr.ri h1,Tr.rl],h3,h4,h5⟩
  | inr y =>
   obtain ⟨rfl,h3⟩:=h2
   exact .inl ⟨by rw[Tr.rj h1,Tr.rl],h3⟩
 rw[zcd,zcp]
 rcases hi with ⟨h1,h2⟩ | ⟨k,h1,h2,h3,h4⟩
 ·rw[Tr.rb h1,Tr.rt (by rfl),Tr.rl,List.filter_eq_self.2 (fun a h=>List.all_eq_true.1 h2 a h)]
 ·obtain ⟨r,k1,n,k2,k3,k4,k5,k6⟩:=z9x hl h2 h3 h4
  have hcl:z54 r.2.2 r.1=some (r.2.2.take n++List.replicate (r.2.2.length - n) default):=by
   unfold z54
   rw[k2,if_pos (by omega),yy4]
  have hlt:(r.2.2.take n).length=n:=by rw[List.length_take];omega
  rw[Tr.rb h1,Tr.rf (by simp),zx (by omega),Tr.rb k1,Tr.rb hcl,k2,Tr.rg ⟨by omega,by rw[zev,yy6,hlt];omega⟩,Tr.rl,k3,yy4,List.drop_zero,Nat.sub_zero,List.take_left' hlt,k6]
theorem z5k {p:za} (hf:FitPr 140737488351232 p) {c:Int}:zcm p c=some (zq4 p c):=by
 rw[zcm,zjx,Tr.rb (zh0 hf)]
 unfold zq4
 rw[Tr.rg (by
  intro h0
  simp only[Bool.or_eq_false_iff,yy8] at h0
  exact ⟨by omega,trivial⟩)]
 by_cases h:zal p=true∧(0≤c∧c < 2)∧p.Links.On.get c=true
 ·obtain ⟨h1,h2,h3⟩:=h
  rw[if_pos ⟨h1,h2,h3⟩,Tr.rf (by rw[h1,h3];simp;omega),Tr.rg h2,Tr.rg h2,Tr.rg h2,Tr.rg h2,Tr.rg h2,Tr.rb (zxp hf.waits),Tr.rb (z3f hf.queue),Tr.rb (zadg hf.queue),Tr.rl]
  rfl
 ·rw[if_neg h,Tr.rt (by
   simp only[Bool.or_eq_true,decide_eq_true_eq,Bool.not_eq_true']
   cases h1:zal p with
   | false=>exact .inl (.inl (.inl rfl))
   | true =>
    by_cases h2:0≤c∧c < 2
    ·exact .inr (Bool.eq_false_iff.2 (fun h3=>h ⟨h1,h2,h3⟩))
    ·exact .inl (by omega)),Tr.rl]
theorem z7r {α:Type} {P:α→Prop} {a:A2 α} (h0:P (a.get 0)) (h1:P (a.get 1)) (c:Int):P (a.get c):=by
 by_cases h:c=0
 ·rw[h];exact h0
 ·have:a.get c=a.get 1:=by unfold A2.get;rw[if_neg h];rfl
  rw[this];exact h1
theorem z1b {m:Int}:∀ {l:List Power} {p:Int},(∀ q,q∈l→p < q.V∧q.V≤5∧m≤q.N∧q.N≤1125899906842624)→l.Pairwise (fun a b=>a.V < b.V)→zw m p l=true
 | [],p,_,_=>rfl
 | q::l,p,h1,h2=>by
  have hq:=h1 q (List.mem_cons_self ..)
  rw[List.pairwise_cons] at h2
  simp only[zw,yy7,decide_eq_true_eq]
  exact ⟨⟨⟨⟨hq.1,hq.2.1⟩,hq.2.2.1⟩,hq.2.2.2⟩,z1b (fun x hx=>⟨h2.1 x hx,(h1 x (List.mem_cons_of_mem _ hx)).2⟩) h2.2⟩
theorem zasd {s:Stake} (hg:GoodS s):zw 1 (-1) (setS s)=true:=by
 refine z1b (fun q hq=>?_) (zsu _)
 obtain ⟨hv,_,hn,h1⟩:=zaji hg hq
 have:=(hg.at hv).1.1
 unfold inA at this
 omega
def GoodX (p:za):Prop:=GoodS p.Stake∧(0≤p.Height∧0≤p.Time∧p.Time≤1099511627776)∧zw 1 (-1) p.Set=true∧z7j p 0=true∧z7j p 1=true∧p.Queue.all (zto p)=true
theorem goodPr_iff {p:za}:zal p=true↔GoodX p∧p.Height < 1099511627776:=by
 constructor
 ·intro h
  obtain ⟨a,⟨b1,b2,b3,b4⟩,c,d,e,f⟩:=zh1 h
  exact ⟨⟨a,⟨b1,b3,b4⟩,c,d,e,f⟩,b2⟩
 ·rintro ⟨⟨a,⟨b1,b3,b4⟩,c,d,e,f⟩,b2⟩
  unfold zal
  simp only[yy7,decide_eq_true_eq]
  exact ⟨⟨⟨⟨⟨a,b1,b2,b3,b4⟩,c⟩,d⟩,e⟩,f⟩
structure LkX (p:za) (c:Int):Prop where
 on:¬ (p.Links.On.get c=true∧p.Links.Gone.get c=true)
 b0:0≤p.Links.Base.get c
 b1:p.Links.Base.get c≤p.Height
 told:zw 1 (-1) (p.Links.Told.get c)=true
 line:zds (zhe p.Links c)
 done:zak (-1) (p.Links.Done.get c)=true
theorem okLk_iff {p:za} {c:Int}:z7j p c=true↔LkX p c:=by
 unfold z7j
 simp only[yy7,decide_eq_true_eq]
 constructor
 ·rintro ⟨⟨⟨⟨⟨h1,h2⟩,h3⟩,h4⟩,h5⟩,h6⟩
  exact ⟨fun ⟨x,y⟩=>(by rw[x,y] at h1;cases h1),h2,h3,h4,h5,h6⟩
 ·rintro ⟨h1,h2,h3,h4,h5,h6⟩
  refine ⟨⟨⟨⟨⟨?_,h2⟩,h3⟩,h4⟩,h5⟩,h6⟩
  cases x:p.Links.On.get c
  ·rfl
  ·cases y:p.Links.Gone.get c
   ·rfl
   ·exact absurd ⟨x,y⟩ h1
theorem GoodX.lk {p:za} (h:GoodX p) {c:Int} (hc:0≤c∧c < 2):LkX p c:=by
 rcases (show c=0∨c=1 by omega) with rfl | rfl
 ·exact okLk_iff.1 h.2.2.2.1
 ·exact okLk_iff.1 h.2.2.2.2.1
theorem ask_iff {p:za} {a:Asked}:zto p a=true↔(0≤a.C∧a.C < 2)∧p.Links.On.get a.C=true∧zct a.P=0∧a.P.Kind≠1:=by
 unfold zto
 simp only[yy7,decide_eq_true_eq,beq_iff_eq,Bool.not_eq_true',beq_eq_false_iff_ne]
 constructor
 ·rintro ⟨⟨⟨⟨c0,c1⟩,c2⟩,c3⟩,c4⟩;exact ⟨⟨c0,c1⟩,c2,c3,c4⟩
 ·rintro ⟨⟨c0,c1⟩,c2,c3,c4⟩;exact ⟨⟨⟨⟨c0,c1⟩,c2⟩,c3⟩,c4⟩
theorem GoodX.ask {p:za} (h:GoodX p) {a:Asked} (ha:a∈p.Queue):(0≤a.C∧a.C < 2)∧p.Links.On.get a.C=true∧zct a.P=0∧a.P.Kind≠1:=ask_iff.1 (List.all_eq_true.1 h.2.2.2.2.2 a ha)
theorem fitX {p:za} (h:GoodX p) {R:Nat} (hR:100000≤R) (hq:p.Queue.length*88≤R):FitPr R p:=by
 have l0:=h.lk (c:=0) (by omega)
 have l1:=h.lk (c:=1) (by omega)
 have lp:∀ {l:List Power},zw 1 (-1) l=true→l.length*16≤R:=fun hl=>by have:=zic hl (by omega);omega
 have ld:∀ {l:List Int},zak (-1) l=true→l.length*8≤R:=fun hl=>by have:=zzc hl;omega
 have lS:∀ {c:Int},LkX p c→(p.Links.Said.get c).length≤400∧(p.Links.Due.get c).length≤400:=by
  intro c l
  have e1:(p.Links.Said.get c).length=(p.Links.Due.get c).length:=l.line.1
  have e2:(p.Links.Said.get c).length≤400:=l.line.2.1
  omega
 have s0:=lS l0
 have s1:=lS l1
 have hw:p.Stake.Waits.length≤60:=h.1.2.1.2.2
 have t0:=lp l0.told;have t1:=lp l1.told;have d0:=ld l0.done;have d1:=ld l1.done
 have hset:=lp h.2.2.1
 have hask:=fun a ha=>z1a (h.ask (a:=a) ha).2.2.1
 have hw':p.Stake.Waits.length*64≤R:=by omega
 have a0:(p.Links.Said.get 0).length*16≤R:=by omega
 have a1:(p.Links.Said.get 1).length*16≤R:=by omega
 have b0:(p.Links.Due.get 0).length*8≤R:=by omega
 have b1:(p.Links.Due.get 1).length*8≤R:=by omega
 have hps:∀ a,a∈p.Queue→a.P.Set.length*16≤R∧a.P.Done.length*8≤R:=fun a ha=>by have:=hask a ha;omega
 exact ⟨hw',hset,fun c=>z7r (P:=fun l:List Power=>l.length*16≤R) (a:=p.Links.Told) t0 t1 c,fun c=>z7r (P:=fun l:List Int=>l.length*8≤R) (a:=p.Links.Done) d0 d1 c,
  fun c=>z7r (P:=fun l:List ByteArray=>l.length*16≤R) (a:=p.Links.Said) a0 a1 c,fun c=>z7r (P:=fun l:List Int=>l.length*8≤R) (a:=p.Links.Due) b0 b1 c,hq,hps⟩
theorem zadh {l:zid} {s:ByteArray} {u:Int} (h:zds l) (hu:0≤u):zds (z4w l s u).1:=by
 unfold z4w
 rw[if_neg (by rintro (k | k);exact k h;omega)]
 split
 ·exact h
 ·split
  ·exact h
  ·rename_i h4
   obtain ⟨g1,g2,g3,g4,g5⟩:=h
   refine ⟨by simp[g1],by simp only[yy6,yy5];omega,g3,by simp only[yy6,yy5];omega,?_⟩
   simp only[List.any_append,g5,Bool.false_or,List.any_cons,List.any_nil,Bool.or_false,yy8]
   omega
theorem zze {p:za} (hg:zal p=true) (now:Int):∃ S D M,(zfu p now).1=upP (zt9 p now) S D M∧GoodS S∧(∀ c:Int,zak (-1) (D.get c)=true)∧(zfu p now).2.2.length≤p.Queue.length∧∀ b,b∈(zfu p now).2.2→b∈p.Queue:=by
 obtain ⟨⟨S,D,M,e,hS,d0,d1⟩,hq2,hq3,hq4⟩:=z08 (now:=now) hg
 exact ⟨S,D,M,e,hS,z7r (P:=fun l=>zak (-1) l=true) d0 d1,hq2,hq4⟩
theorem z7s {p:za} (hg:zal p=true) {now:Int} (hn:p.Time≤now∧now≤1099511627776):GoodX (zl6 p now):=by
 obtain ⟨S,D,M,e,hS,hd,hl,hm⟩:=zze hg now
 have hx:=(goodPr_iff.1 hg).1
 have hp:=zabe hS now
 have hn0:=hx.2.1
 unfold zl6
 rw[e]
 refine ⟨hp,⟨by show 0≤p.Height+1;omega,by show 0≤now;omega,hn.2⟩,zasd hp,okLk_iff.2 ?_,okLk_iff.2 ?_,List.all_eq_true.2 fun b hb=>?_⟩
 ·obtain ⟨a1,a2,a3,a4,a5,a6⟩:=hx.lk (c:=0) (by omega)
  exact ⟨a1,a2,by show p.Links.Base.get 0≤p.Height+1;omega,a4,a5,hd 0⟩
 ·obtain ⟨a1,a2,a3,a4,a5,a6⟩:=hx.lk (c:=1) (by omega)
  exact ⟨a1,a2,by show p.Links.Base.get 1≤p.Height+1;omega,a4,a5,hd 1⟩
 ·exact ask_iff.2 (hx.ask (hm b hb))
theorem zwz (p:za) (c now:Int):(zdt p c now).Height=p.Height∧(zdt p c now).Time=p.Time∧(zdt p c now).Stake=p.Stake∧(zdt p c now).Set=p.Set∧(zdt p c now).Meter=p.Meter∧(zdt p c now).Queue=p.Queue ∧
  (zdt p c now).Links.On=p.Links.On∧(zdt p c now).Links.Gone=p.Links.Gone∧(zdt p c now).Links.Base=p.Links.Base∧(zdt p c now).Links.SHeight=p.Links.SHeight∧(zdt p c now).Links.STime=p.Links.STime∧(zdt p c now).Links.SSaid=p.Links.SSaid∧(zdt p c now).Links.SGot=p.Links.SGot:=by
 unfold zdt
 repeat' split
 all_goals exact ⟨rfl,rfl,rfl,rfl,rfl,rfl,rfl,rfl,rfl,rfl,rfl,rfl,rfl⟩
theorem z3g {p:za} {c j now:Int} (hc:0≤c∧c < 2) (hj:0≤j∧j < 2) (h:j≠c):(zdt p c now).Links.Told.get j=p.Links.Told.get j∧(zdt p c now).Links.Fresh.get j=p.Links.Fresh.get j∧(zdt p c now).Links.Done.get j=p.Links.Done.get j∧zhe (zdt p c now).Links j=zhe p.Links j:=by
 unfold zdt
 repeat' split
 ·exact ⟨rfl,rfl,rfl,rfl⟩
 ·exact ⟨rfl,rfl,rfl,rfl⟩
 ·exact ⟨rfl,rfl,rfl,rfl⟩
 ·unfold zaju zhe
  simp only[zaj _ _ hc hj,if_neg h]
  exact ⟨trivial,trivial,trivial,trivial⟩
theorem zase {p:za} {c:Int} (hs:zw 1 (-1) p.Set=true):zw 0 (-1) (dOf p c)=true:=by
  have hb:∀ v:Nat,0≤fP p.Set v∧fP p.Set v≤1125899906842624:=by
    intro v
    unfold fP
    have hm:=zma (by omega) hs (by omega)
    revert hm
    generalize p.Set=l
    intro hm
    induction l with
    | nil=>simp[zcq]
    | cons q l ih =>
      simp only[zcq]
      split
      · have:=hm q (List.mem_cons_self ..);omega
      · exact ih (fun q hq=>hm q (List.mem_cons_of_mem _ hq))
  unfold dOf
  generalize fP p.Set=g at hb
  generalize fP (p.Links.Told.get c)=f
  have hm:∀ q,q∈zn5 f g→∃ v:Nat,v < 6∧q=⟨v,g v⟩:=by
    intro q hq
    rw[zwq] at hq
    simp only[List.mem_append,List.not_mem_nil,or_false] at hq
    have key:∀ v:Nat,v < 6→q∈zyu (v:Int) (g v) (f v)→∃ v:Nat,v < 6∧q=⟨v,g v⟩:=by
      intro v hv h
      unfold zyu at h
      split at h
      · exact ⟨v,hv,List.mem_singleton.1 h⟩
      · cases h
    rcases hq with h | h | h | h | h | h
    · exact key 0 (by omega) h
    · exact key 1 (by omega) h
    · exact key 2 (by omega) h
    · exact key 3 (by omega) h
    · exact key 4 (by omega) h
    · exact key 5 (by omega) h
  refine z1b (fun q hq=>?_) ?_
  · obtain ⟨v,hv,rfl⟩:=hm q hq
    have:=hb v
    refine ⟨by show (-1:Int) < (v:Int);omega,by show (v:Int)≤5;omega,this.1,this.2⟩
  · rw[zwq]
    have one:∀ (v:Int) (x y:Int),(zyu v x y).Pairwise (fun a b=>a.V < b.V):=by
      intro v x y;unfold zyu;split
      · exact List.pairwise_singleton ..
      · exact .nil
    have mem:∀ {v x y:Int} {q:Power},q∈zyu v x y→q.V=v:=by
      intro v x y q h;unfold zyu at h;split at h
      · rw[List.mem_singleton.1 h]
      · cases h
    refine List.pairwise_append.2 ⟨one _ _ _,List.pairwise_append.2 ⟨one _ _ _,List.pairwise_append.2 ⟨one _ _ _,List.pairwise_append.2 ⟨one _ _ _,List.pairwise_append.2 ⟨one _ _ _,List.pairwise_append.2 ⟨one _ _ _,.nil,?_⟩,?_⟩,?_⟩,?_⟩,?_⟩,?_⟩
    all_goals
      intro a ha b hb
      have k:=mem ha
      first
      | (exfalso;cases hb;done)
      | (simp only[List.mem_append,List.not_mem_nil,or_false] at hb
         first
         | (rcases hb with h | h | h | h | h<;>have:=mem h<;>omega)
         | (rcases hb with h | h | h | h<;>have:=mem h<;>omega)
         | (rcases hb with h | h | h<;>have:=mem h<;>omega)
         | (rcases hb with h | h<;>have:=mem h<;>omega)
         | (have:=mem hb;omega))
theorem zagt {p:za} {c:Int} (hs:zw 1 (-1) p.Set=true) (hd:zak (-1) (p.Links.Done.get c)=true) (hH:1≤p.Height∧p.Height≤1099511627776):zct (pkOf p c)=0:=by
 unfold zct pkOf
 simp only[]
 rw[if_neg (by omega),if_neg (by omega),if_neg (by omega),zase hs,hd]
 rfl
theorem zajw {p:za} {c now:Int} (h:GoodX p) (hc:0≤c∧c < 2) (hH:1≤p.Height∧p.Height≤1099511627776) (hn:0≤now) :
  (zdt p c now=p∧(zyf p c∨p.Links.Closed.get c=true∨400≤(p.Links.Said.get c).length)) ∨
  (¬ zyf p c∧p.Links.Closed.get c=false∧(p.Links.Said.get c).length < 400∧(zdt p c now).Links={ p.Links with Told:=p.Links.Told.set c p.Set,Fresh:=p.Links.Fresh.set c false,Done:=p.Links.Done.set c [],Said:=p.Links.Said.set c (p.Links.Said.get c++[txt (znm (pkOf p c))]),Due:=p.Links.Due.set c (p.Links.Due.get c++[now+40]) }):=by
 have lk:=h.lk hc
 have hg:=zagt (c:=c) h.2.2.1 lk.done hH
 unfold zdt
 by_cases hq:zyf p c
 ·rw[if_pos hq];exact .inl ⟨rfl,.inl hq⟩
 ·rw[if_neg hq,zkw hg,if_neg (by simp)]
  have hu:¬ (¬ zds (zhe p.Links c)∨now+40 < 0):=by rintro (k | k);exact k lk.line;omega
  cases hcl:p.Links.Closed.get c with
  | true =>
   have:znn p c now=(zhe p.Links c,11):=by unfold znn z4w;rw[if_neg hu,if_pos hcl]
   rw[this,if_pos (by simp)];exact .inl ⟨rfl,.inr (.inl rfl)⟩
  | false =>
   by_cases h4:400≤(p.Links.Said.get c).length
   ·have:znn p c now=(zhe p.Links c,6):=by unfold znn z4w;rw[if_neg hu,if_neg (by simp[hcl]),if_pos h4]
    rw[this,if_pos (by simp)];exact .inl ⟨rfl,.inr (.inr h4)⟩
   ·have e:znn p c now=(⟨p.Links.Said.get c++[txt (znm (pkOf p c))],p.Links.Due.get c++[now+40],p.Links.Got.get c,p.Links.Closed.get c⟩,0):=by
     unfold znn z4w;rw[if_neg hu,if_neg (by simp[hcl]),if_neg h4,zkw hg]
    rw[if_neg (by rw[e];simp)]
    refine .inr ⟨hq,rfl,by omega,?_⟩
    unfold zaju
    rw[e]
    simp only[zni _ hc]
theorem z1c {p:za} {c now:Int} (h:GoodX p) (hc:0≤c∧c < 2) (hn:0≤now):GoodX (zdt p c now):=by
 unfold zdt
 repeat' split
 ·exact h
 ·exact h
 ·exact h
 ·have hlk:∀ j:Int,0≤j∧j < 2→LkX (zaju p c now) j:=by
   intro j hj
   obtain ⟨a1,a2,a3,a4,a5,a6⟩:=h.lk hj
   by_cases e:j=c
   ·subst e
    refine ⟨a1,a2,a3,?_,?_,?_⟩
    ·show zw 1 (-1) ((p.Links.Told.set j p.Set).get j)=true
     rw[zaj _ _ hj hj,if_pos rfl];exact h.2.2.1
    ·show zds ⟨(p.Links.Said.set j (znn p j now).1.Said).get j,(p.Links.Due.set j (znn p j now).1.Due).get j,(p.Links.Got.set j (znn p j now).1.Got).get j,(p.Links.Closed.set j (znn p j now).1.Closed).get j⟩
     simp only[zaj _ _ hj hj,if_pos]
     refine zadh a5 ?_
     have:0≤now:=hn
     omega
    ·show zak (-1) ((p.Links.Done.set j []).get j)=true
     rw[zaj _ _ hj hj,if_pos rfl];rfl
   ·refine ⟨a1,a2,a3,?_,?_,?_⟩
    ·show zw 1 (-1) ((p.Links.Told.set c p.Set).get j)=true
     rw[zaj _ _ hc hj,if_neg e];exact a4
    ·show zds ⟨(p.Links.Said.set c (znn p c now).1.Said).get j,(p.Links.Due.set c (znn p c now).1.Due).get j,(p.Links.Got.set c (znn p c now).1.Got).get j,(p.Links.Closed.set c (znn p c now).1.Closed).get j⟩
     simp only[zaj _ _ hc hj,if_neg e]
     exact a5
    ·show zak (-1) ((p.Links.Done.set c []).get j)=true
     rw[zaj _ _ hc hj,if_neg e];exact a6
  exact ⟨h.1,h.2.1,h.2.2.1,okLk_iff.2 (hlk 0 (by omega)),okLk_iff.2 (hlk 1 (by omega)),h.2.2.2.2.2⟩
theorem zajx {p:za} (hg:zal p=true) {now:Int} (hn:p.Time≤now∧now≤1099511627776):GoodX (zif p now).1:=by
 unfold zif
 rw[if_pos ⟨hg,hn⟩]
 have h0:=(goodPr_iff.1 hg).1.2.1
 exact z1c (z1c (z7s hg hn) (by omega) (by omega)) (by omega) (by omega)
theorem z7t {p:za} (hg:zal p=true) {c:Int} (hc:0≤c∧c < 2):zal (zq3 p c)=true:=by
 obtain ⟨hx,hH⟩:=goodPr_iff.1 hg
 have hlk:∀ j:Int,0≤j∧j < 2→LkX (zq3 p c) j:=by
  intro j hj
  obtain ⟨a1,a2,a3,a4,a5,a6⟩:=hx.lk hj
  refine ⟨?_,a2,a3,a4,a5,?_⟩
  ·show ¬ ((p.Links.On.set c false).get j=true∧(p.Links.Gone.set c true).get j=true)
   rw[zaj _ _ hc hj,zaj _ _ hc hj]
   by_cases e:j=c
   ·rw[if_pos e];simp
   ·rw[if_neg e,if_neg e];exact a1
  ·show zak (-1) ((p.Links.Done.set c []).get j)=true
   rw[zaj _ _ hc hj]
   by_cases e:j=c
   ·rw[if_pos e];rfl
   ·rw[if_neg e];exact a6
 refine goodPr_iff.2 ⟨⟨zyd hx.1,hx.2.1,hx.2.2.1,okLk_iff.2 (hlk 0 (by omega)),okLk_iff.2 (hlk 1 (by omega)),List.all_eq_true.2 fun b hb=>ask_iff.2 ?_⟩,hH⟩
 obtain ⟨h1,h2⟩:=List.mem_filter.1 hb
 obtain ⟨q1,q2,q3,q4⟩:=hx.ask h1
 refine ⟨q1,?_,q3,q4⟩
 show (p.Links.On.set c false).get b.C=true
 rw[zaj _ _ hc q1,if_neg (by simpa[zzd] using h2)]
 exact q2
theorem zagu {p:za} {now:Int} (h:zal p=true∧p.Time≤now∧now≤1099511627776):(zif p now).2.2=0:=by unfold zif;rw[if_pos h]
theorem z5l {p:za} {now:Int} (h:zal p=true∧p.Time≤now∧now≤1099511627776) :
  (zif p now).1.Height=p.Height+1∧(zif p now).1.Time=now∧(zif p now).1.Stake=(z24 (zfu p now).1.Stake now).1∧(zif p now).1.Set=setS (z24 (zfu p now).1.Stake now).1∧(zif p now).1.Queue=(zfu p now).2.2 ∧
  (zif p now).1.Links.On=p.Links.On∧(zif p now).1.Links.Gone=p.Links.Gone∧(zif p now).1.Links.Base=p.Links.Base:=by
 unfold zif
 rw[if_pos h]
 obtain ⟨S,D,M,e,-⟩:=zze h.1 now
 obtain ⟨a1,a2,a3,a4,a5,a6,a7,a8,a9,-⟩:=zwz (zdt (zl6 p now) 0 now) 1 now
 obtain ⟨b1,b2,b3,b4,b5,b6,b7,b8,b9,-⟩:=zwz (zl6 p now) 0 now
 simp only[a1,a2,a3,a4,a6,a7,a8,a9,b1,b2,b3,b4,b6,b7,b8,b9]
 refine ⟨?_,?_,rfl,rfl,rfl,?_,?_,?_⟩
 all_goals
  unfold zl6
  rw[e]
  rfl
def zasf (on fresh:Bool) (told:List Power) (D:List Int) (l:zid) (H now:Int) (set told':List Power) (D':List Int) (fresh':Bool) (l':zid):Prop :=
 (told'=told∧D'=D∧fresh'=fresh∧l'=l∧(on=false∨(zn5 (fP told) (fP set)=[]∧D=[]∧fresh=false)∨l.Closed=true∨400≤l.Said.length)) ∨
 (told'=set∧D'=[]∧fresh'=false∧on=true∧l.Closed=false∧l.Said.length < 400∧¬ (zn5 (fP told) (fP set)=[]∧D=[]∧fresh=false)∧zct ⟨1,H,0,0,zn5 (fP told) (fP set),D⟩=0 ∧
  l'=⟨l.Said++[txt (znm ⟨1,H,0,0,zn5 (fP told) (fP set),D⟩)],l.Due++[now+40],l.Got,l.Closed⟩)
theorem z7u {p:za} {c now:Int} (h:GoodX p) (hc:0≤c∧c < 2) (hH:1≤p.Height∧p.Height≤1099511627776) (hn:0≤now) :
  zasf (p.Links.On.get c) (p.Links.Fresh.get c) (p.Links.Told.get c) (p.Links.Done.get c) (zhe p.Links c) p.Height now p.Set ((zdt p c now).Links.Told.get c) ((zdt p c now).Links.Done.get c) ((zdt p c now).Links.Fresh.get c) (zhe (zdt p c now).Links c):=by
 rcases zajw h hc hH hn with ⟨e,h1⟩ | ⟨h1,h2,h3,e⟩
 ·rw[e]
  refine .inl ⟨rfl,rfl,rfl,rfl,?_⟩
  rcases h1 with (h1 | h1) | h1 | h1
  ·exact .inl h1
  ·exact .inr (.inl h1)
  ·exact .inr (.inr (.inl h1))
  ·exact .inr (.inr (.inr h1))
 ·rw[e]
  have on:p.Links.On.get c=true:=by
   cases o:p.Links.On.get c with
   | true=>rfl
   | false=>exact absurd (.inl o) h1
  refine .inr ⟨?_,?_,?_,on,h2,h3,fun k=>h1 (.inr k),zagt h.2.2.1 (h.lk hc).done hH,?_⟩
  ·simp only[zaj _ _ hc hc,if_pos]
  ·simp only[zaj _ _ hc hc,if_pos]
  ·simp only[zaj _ _ hc hc,if_pos]
  ·unfold zhe
   simp only[zaj _ _ hc hc,if_pos]
   rfl
theorem zagv {p:za} (hg:zal p=true) (now:Int):(zl6 p now).Height=p.Height+1∧(zl6 p now).Links.On=p.Links.On∧(zl6 p now).Links.Fresh=p.Links.Fresh∧(zl6 p now).Links.Told=p.Links.Told∧(∀ c,zhe (zl6 p now).Links c=zhe p.Links c):=by
 obtain ⟨S,D,M,e,-⟩:=zze hg now
 unfold zl6
 rw[e]
 exact ⟨rfl,rfl,rfl,rfl,fun _=>rfl⟩
theorem zabw {p:za} {now:Int} (h:zal p=true∧p.Time≤now∧now≤1099511627776) {c:Int} (hc:0≤c∧c < 2) :
  ∃ D,D=(zl6 p now).Links.Done.get c∧zasf (p.Links.On.get c) (p.Links.Fresh.get c) (p.Links.Told.get c) D (zhe p.Links c) (zif p now).1.Height now (zif p now).1.Set ((zif p now).1.Links.Told.get c) ((zif p now).1.Links.Done.get c) ((zif p now).1.Links.Fresh.get c) (zhe (zif p now).1.Links c):=by
 obtain ⟨hx,hH⟩:=goodPr_iff.1 h.1
 have hn:0≤now:=by have:=hx.2.1.2.1;omega
 have h0:=hx.2.1.1
 have g0:=z7s h.1 h.2
 have g1:=z1c (c:=0) g0 (by omega) hn
 obtain ⟨p1,p2,p3,p4,p5⟩:=zagv h.1 now
 obtain ⟨a1,a2,a3,a4,a5,a6,a7,a8,a9,-⟩:=zwz (zdt (zl6 p now) 0 now) 1 now
 obtain ⟨b1,b2,b3,b4,b5,b6,b7,b8,b9,-⟩:=zwz (zl6 p now) 0 now
 refine ⟨_,rfl,?_⟩
 unfold zif
 rw[if_pos h]
 simp only[]
 rw[a1,a4,b1,b4,← p2,← p3,← p4,← p5 c]
 rcases (show c=0∨c=1 by omega) with rfl | rfl
 ·obtain ⟨t1,t2,t3,t4⟩:=z3g (p:=zdt (zl6 p now) 0 now) (c:=1) (j:=0) (now:=now) (by omega) (by omega) (by omega)
  rw[t1,t2,t3,t4]
  exact z7u g0 hc (by omega) hn
 ·obtain ⟨t1,t2,t3,t4⟩:=z3g (p:=zl6 p now) (c:=0) (j:=1) (now:=now) (by omega) (by omega) (by omega)
  have:=z7u (c:=1) (now:=now) g1 hc (by rw[b1];omega) hn
  rw[b7,t1,t2,t3,t4,b1,b4] at this
  exact this
theorem z7v (s:Stake):zep (fP (setS s))=setS s:=by
 have nn:∀ v,0≤z5u (cutF (nvF s)) v∨True:=fun _=>.inr trivial
 show zep (fP (zep (z5u (nvF s))))=zep (z5u (nvF s))
 have key:∀ f:Nat→Int,zep (fP (zep f))=zep f:=by
  intro f
  have e:zep f=zep (fun v=>if 0 < f v then f v else 0):=by
   rw[zs5,zs5]
   have:∀ (w:Int) (n:Int),zs3 w n=zs3 w (if 0 < n then n else 0):=by
    intro w n
    unfold zs3
    by_cases h:0 < n
    ·rw[if_pos h,if_pos h,if_pos h]
    ·rw[if_neg h,if_neg h];rfl
   rw[this _ (f 0),this _ (f 1),this _ (f 2),this _ (f 3),this _ (f 4),this _ (f 5)]
  rw[e]
  exact zqu fun v hv=>z89 (fun v=>by show 0≤if 0 < f v then f v else 0;split<;>omega) hv
 exact key _
theorem zajy {told set:List Power} (hs:zep (fP set)=set):zn4 told (zn5 (fP told) (fP set))=set:=by
 unfold zn4
 have:∀ v:Nat,v < 6→zwp (zn5 (fP told) (fP set)) v (zcq told v)=fP set v:=fun v hv=>zacn (f:=fP told) (g:=fP set) hv
 rw[zqu this,hs]
theorem zj1 {C:zb7} {i j:Int} (hi:0≤i∧i < 2) (hj:0≤j∧j < 2) (c:zc):zb (zk0 C i c) j=if j=i then c else zb C j:=by
 unfold zb zk0
 simp only[zaj _ _ hi hj]
 by_cases e:j=i
 ·simp only[if_pos e]
 ·simp only[if_neg e]
theorem zd2 {C:zb7} {i:Int} (hi:0≤i∧i < 2) (c:zc):zb (zk0 C i c) i=c:=by rw[zj1 hi hi,if_pos rfl]
theorem zcw {C:zb7} {i j:Int} (hi:0≤i∧i < 2) (hj:0≤j∧j < 2) (h:j≠i) (c:zc):zb (zk0 C i c) j=zb C j:=by rw[zj1 hi hj,if_neg h]
theorem z7w {C:zb7} {i:Int} (hi:0≤i∧i < 2):zk0 C i (zb C i)=C:=by
 unfold zb zk0
 simp only[zni _ hi]
def zyg (L:Links) (i:Int) (l:zid):Links:={ L with Said:=L.Said.set i l.Said,Due:=L.Due.set i l.Due,Got:=L.Got.set i l.Got,Closed:=L.Closed.set i l.Closed }
def zxu (L:Links) (i:Int) (h:z98):Links:={ L with SHeight:=L.SHeight.set i h.Height,STime:=L.STime.set i h.Time,SSaid:=L.SSaid.set i h.Said,SGot:=L.SGot.set i h.Got }
theorem zte {L:Links} {i j:Int} (hi:0≤i∧i < 2) (hj:0≤j∧j < 2) (l:zid):ze (zyg L i l) j=if j=i then { ze L j with Out:=l } else ze L j:=by
 unfold ze zyg
 simp only[zaj _ _ hi hj]
 by_cases e:j=i
 ·simp only[if_pos e]
 ·simp only[if_neg e]
theorem z9y {L:Links} {i j:Int} (hi:0≤i∧i < 2) (hj:0≤j∧j < 2) (h:z98):ze (zxu L i h) j=if j=i then { ze L j with Seen:=h } else ze L j:=by
 unfold ze zxu
 simp only[zaj _ _ hi hj]
 by_cases e:j=i
 ·simp only[if_pos e]
 ·simp only[if_neg e]
theorem zve (L:Links) (i:Int):zhe L i=(ze L i).Out:=rfl
def noW (w:Wld) (e:Int):Wld×Reply:=(w,⟨e,0⟩)
def zagw (h:zti) (p:za) (C:zb7):zti :=
 { h with PHeight:=⟨p.Height,p.Height⟩,PTime:=⟨p.Time,p.Time⟩,PSaid:=⟨((p.Links.Said.x0.length:Nat):Int),((p.Links.Said.x1.length:Nat):Int)⟩,PGot:=C.Got }
def zasg (h:zti) (i:Int) (c:zc) (got:Int):zti :=
 { h with CHeight:=h.CHeight.set i c.Height,CTime:=h.CTime.set i c.Time,CSaid:=h.CSaid.set i ((c.Out.Said.length:Nat):Int),CGot:=h.CGot.set i got }
def zak7 (h:zti) (i:Int):zti :=
 ⟨h.PHeight.set i 0,h.PTime.set i 0,h.PSaid.set i 0,h.PGot.set i 0,h.CHeight.set i 0,h.CTime.set i 0,h.CSaid.set i 0,h.CGot.set i 0⟩
def zash (h:zti) (i:Int):z98:=⟨h.PHeight.get i,h.PTime.get i,h.PSaid.get i,h.PGot.get i⟩
def zan6 (h:zti) (i:Int):z98:=⟨h.CHeight.get i,h.CTime.get i,h.CSaid.get i,h.CGot.get i⟩
def zke (w:Wld):Wld×Reply :=
 if (zif w.p w.clock).2.2≠0 then noW w (zif w.p w.clock).2.2
 else ({ w with p:=(zif w.p w.clock).1,heads:=zagw w.heads (zif w.p w.clock).1 w.consumers },⟨0,(((zif w.p w.clock).2.1.length:Nat):Int)⟩)
def zyh (w:Wld) (i:Int):Wld×Reply :=
 if (zdj w.p i).2≠0 then noW w (zdj w.p i).2
 else ({ w with p:=(zdj w.p i).1,consumers:=zk0 w.consumers i (zn7 (zdj w.p i).1.Set (zdj w.p i).1.Height w.clock),heads:=zak7 w.heads i },⟨0,(zdj w.p i).1.Height⟩)
def ztf (w:Wld) (i:Int):Wld×Reply :=
 if (z3a w.clock (zb w.consumers i)).2≠0 then noW w (z3a w.clock (zb w.consumers i)).2
 else ({ w with consumers:=zk0 w.consumers i (z3a w.clock (zb w.consumers i)).1,heads:=zasg w.heads i (z3a w.clock (zb w.consumers i)).1 (w.p.Links.Got.get i) },⟨0,0⟩)
def z3h (w:Wld) (i:Int) (back:Bool):Wld×Reply :=
 if back=true then ({ w with p:={ w.p with Links:=zxu w.p.Links i (zan6 w.heads i) } },⟨0,0⟩)
 else ({ w with consumers:=zk0 w.consumers i { zb w.consumers i with Seen:=zash w.heads i } },⟨0,0⟩)
def zagx (n:Nat):Packet:=⟨3,1,0,i64.wrap (1+(n:Int)),[],[]⟩
def zagy (l:zid):ByteArray:=if l.Got < ((l.Said.length:Nat):Int) then l.Said.getD l.Got.toNat .empty else (⟨#[]⟩:ByteArray)
def zi8 (l:zid) (forged:Bool):ByteArray:=if forged=true then (zf9 (zagx (zagy l).size)).1 else zagy l
def zda (w:Wld) (i:Int) (back:Bool):zid:=if back=true then (zb w.consumers i).Out else (ze w.p.Links i).Out
def z5m (w:Wld) (i:Int) (back:Bool):Int:=if back=true then w.p.Links.SSaid.get i else w.consumers.SSaid.get i
def zlg (w:Wld) (d:Deed):zid×Int:=zl4 (zda w d.C d.Back) (i64.wrap ((zda w d.C d.Back).Got+1)) (zi8 (zda w d.C d.Back) d.Forged) (z5m w d.C d.Back) w.clock
def zoa (w:Wld) (d:Deed):Wld×Reply :=
  if (zlg w d).2≠0 then noW w (zlg w d).2
  else if d.Back=true then
    (if (zln w.p d.C (zi8 (zda w d.C d.Back) d.Forged).data.toList).2≠0 then noW w (zln w.p d.C (zi8 (zda w d.C d.Back) d.Forged).data.toList).2
     else ({ w with p:=(zln w.p d.C (zi8 (zda w d.C d.Back) d.Forged).data.toList).1,consumers:=zk0 w.consumers d.C { zb w.consumers d.C with Out:=(zlg w d).1 } },⟨0,(zlg w d).1.Got⟩))
  else (if (zsv (zb w.consumers d.C) (zi8 (zda w d.C d.Back) d.Forged).data.toList).2≠0 then noW w (zsv (zb w.consumers d.C) (zi8 (zda w d.C d.Back) d.Forged).data.toList).2
     else ({ w with p:={ w.p with Links:=zyg w.p.Links d.C (zlg w d).1 },consumers:=zk0 w.consumers d.C (zsv (zb w.consumers d.C) (zi8 (zda w d.C d.Back) d.Forged).data.toList).1 },⟨0,(zlg w d).1.Got⟩))
def z5n (w:Wld) (d:Deed):zid×Int:=if d.Back=true then zxl (zb w.consumers d.C).Out d.N (w.consumers.STime.get d.C) (w.consumers.SGot.get d.C) else zxl (ze w.p.Links d.C).Out d.N (w.p.Links.STime.get d.C) (w.p.Links.SGot.get d.C)
def zsy (w:Wld) (d:Deed):Wld×Reply :=
 if (z5n w d).2≠0 then noW w (z5n w d).2 else ({ w with p:=zq4 w.p d.C,consumers:=zk0 w.consumers d.C (zvc (zb w.consumers d.C)) },⟨0,0⟩)
def putW (w:Wld) (i:Int) (r:zc×Int):Wld×Reply:=if r.2≠0 then noW w r.2 else ({ w with consumers:=zk0 w.consumers i r.1 },⟨0,0⟩)
def zob (w:Wld) (d:Deed):Wld×Reply :=
 if d.Kind < 4∨12 < d.Kind then noW w 3 else if d.C < 0∨2≤d.C then noW w 4 else if d.Kind≠4∧w.consumers.On.get d.C=false then noW w 4
 else if d.Kind=4 then zyh w d.C else if d.Kind=7 then ztf w d.C else if d.Kind=8 then z3h w d.C d.Back else if d.Kind=9 then zoa w d else if d.Kind=10 then zsy w d
 else if d.Kind=11 then putW w d.C (z04 (zb w.consumers d.C) d.V w.clock) else if d.Kind=12 then putW w d.C (zo4 (zb w.consumers d.C) d.V d.N w.clock) else (w,⟨0,0⟩)
def zo5 (w:Wld) (r:za×Int):Wld×Reply:=if r.2≠0 then noW w r.2 else ({ w with p:=r.1 },⟨0,0⟩)
def zabx (p:za) (v:Int):za×Int:=({ p with Stake:=(zb0 p.Stake v 1).1 },(zb0 p.Stake v 1).2)
def zadi (w:Wld) (n:Int):Wld×Reply:=if n < 1∨1099511627736 - w.clock < n then noW w 2 else ({ w with clock:=w.clock+n },⟨0,w.clock+n⟩)
def actW (w:Wld) (d:Deed):Wld×Reply :=
 if d.Kind=1 then zo5 w (zcn w.p d.D d.V d.N) else if d.Kind=2 then zo5 w (zcg w.p d.D d.V d.N w.clock) else if d.Kind=3 then zo5 w (zabx w.p d.V) else if d.Kind=13 then zo5 w (zsx w.p d.V d.N)
 else if d.Kind=5 then zadi w d.N else if d.Kind=6 then zke w else zob w d
def zat (w:Wld):Wld:={ w with deeds:=w.deeds+1 }
def doW (w:Wld) (d:Deed):Wld×Reply:=if 600≤w.deeds then noW w 6 else actW (zat w) d
def newW:Wld:=⟨0,z7l,default,default,0⟩
def Pk1 (s:ByteArray):Prop:=∃ q,zct q=0∧q.Kind=1∧s=txt (znm q)
def PkB (s:ByteArray):Prop:=∃ q,zct q=0∧q.Kind≠1∧s=txt (znm q)
structure ConsW (w:Wld) (i:Int):Prop where
 good:zie (zb w.consumers i)=true
 height:(zb w.consumers i).Height≤w.deeds
 time:(zb w.consumers i).Time≤w.clock
 size:(((zb w.consumers i).Pending.length+(zb w.consumers i).Ripes.length:Nat):Int)≤w.deeds
 on:(zb w.consumers i).On=w.p.Links.On.get i
 gone:(zb w.consumers i).Gone=w.p.Links.Gone.get i
 told:∀ s,s∈(ze w.p.Links i).Out.Said→Pk1 s
 said:∀ s,s∈(zb w.consumers i).Out.Said→PkB s
 fresh:w.p.Links.On.get i=false→w.p.Links.Gone.get i=false→zb w.consumers i=default∧(ze w.p.Links i).Out.Said=[]
structure OkW (w:Wld):Prop where
 d0:0≤w.deeds
 d1:w.deeds≤600
 t0:0≤w.clock
 t1:w.clock≤1099511627736
 p:GoodX w.p
 ph:w.p.Height≤w.deeds
 pt:w.p.Time≤w.clock
 pq:((w.p.Queue.length:Nat):Int)≤w.deeds
 c:∀ i:Int,0≤i∧i < 2→ConsW w i
theorem OkW.pr {w:Wld} (h:OkW w):zal w.p=true:=goodPr_iff.2 ⟨h.p,by have:=h.ph;have:=h.d1;omega⟩
theorem OkW.fit {w:Wld} (h:OkW w):FitPr 140737488351232 w.p:=fitX h.p (by omega) (by have:=h.pq;have:=h.d1;omega)
theorem zan7 {c:zc} (h:zie c=true) {n:Nat} (hn:n≤1000000) (hs:c.Pending.length+c.Ripes.length≤n):FitC 140737488351232 c:=by
 obtain ⟨g1,g2,g3,g4,g5⟩:=zb5 h
 have e1:=zic g3 (by omega)
 have e2:c.Out.Said.length=c.Out.Due.length:=g2.1
 have e3:c.Out.Said.length≤400:=g2.2.1
 exact ⟨by omega,by omega,by omega,by omega,by omega,fun p hp=>by have:=z1a (z03 g5 p hp).1;omega⟩
theorem ConsW.fit {w:Wld} {i:Int} (h:ConsW w i) (hd:w.deeds≤600):FitC 140737488351232 (zb w.consumers i) :=
 zan7 h.good (n:=600) (by omega) (by have:=h.size;omega)
structure SameL (p q:za) (i:Int):Prop where
 on:p.Links.On.get i=q.Links.On.get i
 gone:p.Links.Gone.get i=q.Links.Gone.get i
 said:(ze p.Links i).Out.Said=(ze q.Links i).Out.Said
theorem SameL.refl (p:za) (i:Int):SameL p p i:=⟨rfl,rfl,rfl⟩
theorem SameL.of {p q:za} {i:Int} (h:ze p.Links i=ze q.Links i):SameL p q i:=⟨congrArg Link.On h,congrArg Link.Gone h,by rw[h]⟩
theorem ConsW.more {w w':Wld} {i:Int} (h:ConsW w i) (hc:zb w'.consumers i=zb w.consumers i) (hl:SameL w'.p w.p i) (hd:w.deeds≤w'.deeds) (ht:w.clock≤w'.clock):ConsW w' i:=by
 obtain ⟨e1,e2,e3⟩:=hl
 obtain ⟨a1,a2,a3,a4,a5,a6,a7,a8,a9⟩:=h
 refine ⟨by rw[hc];exact a1,by rw[hc];omega,by rw[hc];omega,by rw[hc];omega,by rw[hc,e1];exact a5,by rw[hc,e2];exact a6,by rw[e3];exact a7,by rw[hc];exact a8,?_⟩
 rw[e1,e2,hc,e3];exact a9
theorem zi9 {w:Wld} (h:OkW w) (hd:w.deeds < 600):OkW (zat w) :=
 ⟨by have:=h.d0;show 0≤w.deeds+1;omega,by show w.deeds+1≤600;omega,h.t0,h.t1,h.p,by have:=h.ph;show w.p.Height≤w.deeds+1;omega,h.pt,by have:=h.pq;show ((w.p.Queue.length:Nat):Int)≤w.deeds+1;omega,
  fun i hi=>(h.c i hi).more rfl (.refl _ _) (by show w.deeds≤w.deeds+1;omega) (by exact Int.le_refl _)⟩
theorem z9z:OkW newW:=by
 have g:GoodX z7l:=(goodPr_iff.1 z3e).1
 refine ⟨by decide,by decide,by decide,by decide,g,by decide,by decide,by decide,fun i hi=>?_⟩
 have hc:zb newW.consumers i=default:=by rcases (show i=0∨i=1 by omega) with rfl | rfl<;>rfl
 have hl:ze newW.p.Links i=default:=by rcases (show i=0∨i=1 by omega) with rfl | rfl<;>rfl
 have e1:newW.p.Links.On.get i=false:=congrArg Link.On hl
 have e2:newW.p.Links.Gone.get i=false:=congrArg Link.Gone hl
 refine ⟨by rw[hc];decide,by rw[hc];decide,by rw[hc];decide,by rw[hc];decide,by rw[hc,e1];rfl,by rw[hc,e2];rfl,(by rw[hl];intro s hs;cases hs),(by rw[hc];intro s hs;cases hs),fun _ _=>⟨hc,by rw[hl];rfl⟩⟩
theorem z5o {w:Wld} (h:OkW w) {p:za} (hp:GoodX p) (hH:p.Height=w.p.Height) (hT:p.Time=w.p.Time) (hQ:p.Queue.length=w.p.Queue.length) (hl:∀ i:Int,0≤i∧i < 2→SameL p w.p i):OkW { w with p:=p } :=
 ⟨h.d0,h.d1,h.t0,h.t1,hp,by rw[hH];exact h.ph,by rw[hT];exact h.pt,by rw[hQ];exact h.pq,fun i hi=>(h.c i hi).more rfl (hl i hi) (Int.le_refl _) (Int.le_refl _)⟩
theorem z1d {p:za} (h:GoodX p) {s:Stake} (hs:GoodS s):GoodX { p with Stake:=s }:=⟨hs,h.2.1,h.2.2.1,h.2.2.2.1,h.2.2.2.2.1,h.2.2.2.2.2⟩
theorem z1e {w:Wld} (h:OkW w) {s:Stake} (hs:GoodS s):OkW { w with p:={ w.p with Stake:=s } }:=z5o h (z1d h.p hs) rfl rfl rfl fun _ _=>⟨rfl,rfl,rfl⟩
theorem zw0 {w:Wld} (h:OkW w) {r:za×Int} (hr:r.2=0→OkW { w with p:=r.1 }):OkW (zo5 w r).1:=by
 unfold zo5
 by_cases e:r.2=0
 ·rw[if_neg (by simpa using e)];exact hr e
 ·rw[if_pos e];exact h
theorem z7x {w:Wld} (h:OkW w) (d v n:Int):OkW (zo5 w (zcn w.p d v n)).1:=by
 refine zw0 h fun h0=>?_
 unfold zcn at h0 ⊢
 rw[if_pos h.pr] at h0 ⊢
 by_cases e:(zbo w.p.Stake d v n).2=0
 ·rw[if_neg (by simpa using e)];exact z1e h (z5e e)
 ·rw[if_pos e] at h0;exact absurd h0 e
theorem z90 {p:za} (h:GoodX p):GoodX { p with Links:=z7m p.Links }:=by
 have hlk:∀ j:Int,0≤j∧j < 2→LkX { p with Links:=z7m p.Links } j:=by
  intro j hj
  obtain ⟨a1,a2,a3,a4,a5,a6⟩:=h.lk hj
  exact ⟨a1,a2,a3,a4,a5,a6⟩
 exact ⟨h.1,h.2.1,h.2.2.1,okLk_iff.2 (hlk 0 (by omega)),okLk_iff.2 (hlk 1 (by omega)),h.2.2.2.2.2⟩
theorem z2d {w:Wld} (h:OkW w) (d v k:Int):OkW (zo5 w (zcg w.p d v k w.clock)).1:=by
 refine zw0 h fun h0=>?_
 unfold zcg at h0 ⊢
 have ht:zal w.p=true∧0≤w.clock∧w.clock≤1099511627776:=⟨h.pr,h.t0,by have:=h.t1;omega⟩
 rw[if_pos ht] at h0 ⊢
 by_cases e:(za3 w.p.Stake d v k (z07 w.p w.clock)).2=0
 ·rw[if_neg (by simpa using e)]
  have g:=z00 e
  exact z5o h (z1d (z90 h.p) g) rfl rfl rfl fun _ _=>⟨rfl,rfl,rfl⟩
 ·rw[if_pos e] at h0;exact absurd h0 e
theorem zadj {w:Wld} (h:OkW w) (v:Int):OkW (zo5 w (zabx w.p v)).1 :=
 zw0 h fun _=>z1e h (zq2 h.p.1 v (.inr (.inl rfl)))
theorem zajz {w:Wld} (h:OkW w) (v n:Int):OkW (zo5 w (zsx w.p v n)).1:=by
 refine zw0 h fun h0=>?_
 unfold zsx at h0 ⊢
 rw[if_neg (by rw[h.pr];simp)] at h0 ⊢
 by_cases h1:0≤v∧v < 6
 ·rw[if_pos h1] at h0 ⊢
  by_cases h2:1≤n∧n≤w.p.Height
  ·rw[if_pos h2] at h0 ⊢
   by_cases h3:w.p.Stake.Validators.Dead.get v=true
   ·rw[if_pos h3] at h0;cases h0
   ·rw[if_neg h3];exact z1e h (zq2 (zsw h.p.1 v n 50) v (.inr (.inr rfl)))
  ·rw[if_neg h2] at h0;cases h0
 ·rw[if_neg h1] at h0;cases h0
theorem zaj0 {w:Wld} (h:OkW w) (n:Int):OkW (zadi w n).1:=by
 unfold zadi
 split
 ·exact h
 ·rename_i hn
  have:=h.t0;have:=h.t1;have:=h.pt
  exact ⟨h.d0,h.d1,by show 0≤w.clock+n;omega,by show w.clock+n≤_;omega,h.p,h.ph,by show w.p.Time≤w.clock+n;omega,h.pq,fun i hi=>(h.c i hi).more rfl (.refl _ _) (Int.le_refl _) (by show w.clock≤w.clock+n;omega)⟩
theorem zaby {M:Int} (hM:0≤M):∀ {l:List Power},(∀ q,q∈l→q.N≤M)→∀ v,zcq l v≤M
 | [],_,v=>by simpa[zcq] using hM
 | q::l,h,v=>by
  simp only[zcq]
  split
  ·exact h q (List.mem_cons_self ..)
  ·exact zaby hM (fun q hq=>h q (List.mem_cons_of_mem _ hq)) v
theorem zabz {M:Int}:∀ {d:List Power} {v n:Int},n≤M→(∀ q,q∈d→q.N≤M)→zwp d v n≤M
 | [],v,n,hn,_=>hn
 | q::d,v,n,hn,h=>by
  show zwp d v (if q.V=v then q.N else n)≤M
  refine zabz ?_ (fun q hq=>h q (List.mem_cons_of_mem _ hq))
  split
  ·exact h q (List.mem_cons_self ..)
  ·exact hn
theorem zaj1 {a d:List Power} (ha:zw 1 (-1) a=true) (hd:zw 0 (-1) d=true):zw 1 (-1) (zn4 a d)=true :=
 zajq fun v=>zabz (zaby (by omega) (fun q hq=>(zma (by omega) ha (by omega) q hq).2.2.2) _) (fun q hq=>(zma (by omega) hd (by omega) q hq).2.2.2)
structure zadk (c:zc):Prop where
 set:zw 1 (-1) c.Set=true
 ripes:c.Ripes.all zjd=true
 id0:0≤c.Id
 id1:c.Id≤1099511627776
theorem zagz {now:Int} (hn:0≤now∧now≤1099511627776) {c:zc} (h:zadk c) {p:Packet} (hp:zlm p=true):zadk (znh now c p):=by
 rw[ztb]
 obtain ⟨g1,g2,_⟩:=z03 (l:=[p]) (by simp[hp]) p (by simp)
 have f:=zmb g1
 refine ⟨zaj1 h.set f.2.2.2.2.2.2.2.2.1,?_,by show 0≤p.Id;omega,f.2.2.2.1⟩
 show (c.Ripes++[(⟨p.Id,i64.wrap (now+15)⟩:Ripe)]).all zjd=true
 rw[List.all_append,h.ripes]
 have:zjd (⟨p.Id,i64.wrap (now+15)⟩:Ripe)=true:=by
  unfold zjd
  simp only[yy7,decide_eq_true_eq]
  rw[zk (by omega) (by omega)]
  exact ⟨⟨f.2.2.1,f.2.2.2.1⟩,by omega⟩
 simp[this]
theorem z3i {now:Int} (hn:0≤now∧now≤1099511627776):∀ {l:List Packet} {c:zc},zadk c→l.all zlm=true→zadk (l.foldl (znh now) c)
 | [],_,h,_=>h
 | p::l,c,h,hl=>by
  rw[List.all_cons,yy7] at hl
  exact z3i (c:=znh now c p) hn (zagz hn h hl.1) hl.2
def matP (r:Ripe):Packet:=⟨2,r.Id,0,0,[],[]⟩
def matT (r:Ripe):ByteArray:=txt (znm (matP r))
theorem z7y {r:Ripe} (h:zjd r=true):zct (matP r)=0:=by
 unfold zjd at h
 simp only[yy7,decide_eq_true_eq] at h
 exact zage h.1.1 h.1.2
theorem z1f {now:Int} (hn:0≤now∧now≤1099511627776):∀ (rs:List Ripe) (c:zc),c.Ripes=rs→zds c.Out→rs.all zjd=true →
  ∃ k,k≤rs.length∧zn8 now rs c={ c with Ripes:=rs.drop k,Out:={ c.Out with Said:=c.Out.Said++(rs.take k).map matT,Due:=c.Out.Due++List.replicate k (now+40) } } ∧
   (∀ r,r∈rs.take k→r.Due≤now)∧(k=rs.length∨(∃ r,rs[k]?=some r∧now < r.Due)∨c.Out.Closed=true∨400≤c.Out.Said.length+k)∧c.Out.Said.length+k≤400
 | [],c,hr,hg,_=>⟨0,Nat.le_refl _,by
   show c={ c with Ripes:=[],Out:={ c.Out with Said:=c.Out.Said++[],Due:=c.Out.Due++[] } }
   rw[List.append_nil,List.append_nil,← hr],by simp,.inl rfl,by have:c.Out.Said.length≤400:=hg.2.1;omega⟩
 | r::rs,c,hr,hg,ha=>by
  have h400:c.Out.Said.length≤400:=hg.2.1
  rw[List.all_cons,yy7] at ha
  have hstop:(r.Due≤now→c.Out.Closed=true∨400≤c.Out.Said.length)→zn8 now (r::rs) c=c→∃ k,k≤(r::rs).length∧zn8 now (r::rs) c={ c with Ripes:=(r::rs).drop k,Out:={ c.Out with Said:=c.Out.Said++((r::rs).take k).map matT,Due:=c.Out.Due++List.replicate k (now+40) } } ∧
    (∀ q,q∈(r::rs).take k→q.Due≤now)∧(k=(r::rs).length∨(∃ q,(r::rs)[k]?=some q∧now < q.Due)∨c.Out.Closed=true∨400≤c.Out.Said.length+k)∧c.Out.Said.length+k≤400:=by
   intro h1 h2
   refine ⟨0,Nat.zero_le _,by rw[h2];simp[← hr],by simp,?_,by omega⟩
   by_cases hd:r.Due≤now
   ·rcases h1 hd with k | k
    ·exact .inr (.inr (.inl k))
    ·exact .inr (.inr (.inr (by omega)))
   ·exact .inr (.inl ⟨r,rfl,by omega⟩)
  by_cases hd:r.Due≤now
  ·by_cases hc:c.Out.Closed=true∨400≤c.Out.Said.length
   ·refine hstop (fun _=>hc) ?_
    have e0:(zrk ⟨2,r.Id,0,0,[],[]⟩ now c).1≠0:=by
     intro e
     obtain ⟨_,k,_⟩:=zagd e
     obtain ⟨_,_,k1,k2,_⟩:=z9p k
     rcases hc with hc | hc
     ·rw[hc] at k1;cases k1
     ·omega
    unfold zn8
    rw[if_pos hd,if_pos e0]
   ·have hc1:c.Out.Closed=false:=Bool.eq_false_iff.2 (fun h=>hc (.inl h))
    have hc2:c.Out.Said.length < 400:=by have:¬ 400≤c.Out.Said.length:=fun h=>hc (.inr h);omega
    have hw:i64.wrap (now+40)=now+40:=zk (by omega) (by omega)
    have hs:=zajo (p:=matP r) (now:=now) (c:=c) (z7y ha.1) hg (by rw[hw];omega) hc1 hc2
    rw[hw] at hs
    obtain ⟨c',hc'⟩:∃ c':zc,c'={ c with Ripes:=rs,Out:={ c.Out with Said:=c.Out.Said++[matT r],Due:=c.Out.Due++[now+40] } }:=⟨_,rfl⟩
    have hstep:zn8 now (r::rs) c=zn8 now rs c':=by
     have hs':zrk ⟨2,r.Id,0,0,[],[]⟩ now c=_:=hs
     rw[zn8,if_pos hd,hs',if_neg (by simp),hc']
     rfl
    have hg':zds c'.Out:=by rw[hc'];exact z3c hg (by omega) hc2
    obtain ⟨k,k1,k2,k3,k4,k5⟩:=z1f hn rs c' (by rw[hc']) hg' ha.2
    have l1:c'.Out.Said.length=c.Out.Said.length+1:=by rw[hc'];simp
    refine ⟨k+1,by simp only[List.length_cons];omega,?_,?_,?_,by omega⟩
    ·rw[hstep,k2,hc']
     simp only[List.drop_succ_cons,List.take_succ_cons,List.map_cons,List.append_assoc,List.singleton_append,List.replicate_succ]
    ·intro q hq
     rw[List.take_succ_cons] at hq
     rcases List.mem_cons.1 hq with rfl | hq
     ·exact hd
     ·exact k3 q hq
    ·rcases k4 with k4 | k4 | k4 | k4
     ·exact .inl (by simp only[List.length_cons];omega)
     ·exact .inr (.inl (by simpa using k4))
     ·exact .inr (.inr (.inl (by rw[hc'] at k4;exact k4)))
     ·exact .inr (.inr (.inr (by omega)))
  ·exact hstop (fun h=>absurd h hd) (by unfold zn8;rw[if_neg hd])
theorem zadl {l:zid} (h:zds l) {t:List ByteArray} {n u:Int} (hu:0≤u) (hl:l.Said.length+t.length≤400):zds { l with Said:=l.Said++t,Due:=l.Due++List.replicate t.length u }:=by
 obtain ⟨g1,g2,g3,g4,g5⟩:=h
 refine ⟨by simp[g1],by simp only[yy6];omega,g3,by simp only[yy6];omega,?_⟩
 simp only[List.any_append,g5,Bool.false_or]
 rw[List.any_eq_false]
 intro x hx
 rw[List.eq_of_mem_replicate hx]
 simp only[decide_eq_true_eq];omega
theorem ztg {now:Int} {c:zc} (hg:zie c=true) (ho:c.On=true) (ht:c.Time≤now∧now≤1099511627776) (hh:c.Height+1 < 1099511627776) :
  (z3a now c).2=0∧∃ m k,m=c.Pending.foldl (znh now) { c with Height:=c.Height+1,Time:=now }∧zadk m∧m.Ripes.length=c.Ripes.length+c.Pending.length∧k≤m.Ripes.length ∧
   (z3a now c).1={ m with Pending:=[],Ripes:=m.Ripes.drop k,Out:={ c.Out with Said:=c.Out.Said++(m.Ripes.take k).map matT,Due:=c.Out.Due++List.replicate k (now+40) } } ∧
   m.On=c.On∧m.Gone=c.Gone∧m.Height=c.Height+1∧m.Time=now∧m.Out=c.Out∧(∀ r,r∈m.Ripes.take k→r.Due≤now) ∧
   (k=m.Ripes.length∨(∃ r,m.Ripes[k]?=some r∧now < r.Due)∨c.Out.Closed=true∨400≤c.Out.Said.length+k)∧c.Out.Said.length+k≤400∧zie (z3a now c).1=true:=by
 obtain ⟨g1,g2,g3,g4,g5⟩:=zb5 hg
 have hw:i64.wrap (c.Height+1)=c.Height+1:=zk (by have:=g1.2;omega) (by have:=g1.2;omega)
 have hn0:0≤now:=by have:=g1.2.2.2.1;omega
 have he:=zajp (now:=now) hg ho ht.1 ht.2
 rw[hw] at he
 obtain ⟨m,hm⟩:∃ m,m=c.Pending.foldl (znh now) { c with Height:=c.Height+1,Time:=now }:=⟨_,rfl⟩
 rw[← hm] at he
 have hpm:zadk m:=by rw[hm];exact z3i ⟨hn0,ht.2⟩ ⟨g3,g4,g1.2.2.2.2.2.1,g1.2.2.2.2.2.2⟩ g5
 obtain ⟨f1,f2,f3,f4,f5,f6⟩:=zt8 (now:=now) c.Pending { c with Height:=c.Height+1,Time:=now }
 rw[← hm] at f1 f2 f3 f4 f5 f6
 obtain ⟨k,k1,k2,k3,k4,k5⟩:=z1f (now:=now) ⟨hn0,ht.2⟩ m.Ripes { m with Pending:=[] } rfl (by show zds m.Out;rw[f2];exact g2) hpm.ripes
 replace f2:m.Out=c.Out:=f2
 simp only[f2] at k4 k5
 have hfin:(z3a now c).1={ m with Pending:=[],Ripes:=m.Ripes.drop k,Out:={ c.Out with Said:=c.Out.Said++(m.Ripes.take k).map matT,Due:=c.Out.Due++List.replicate k (now+40) } }:=by
  rw[he]
  show zn8 now m.Ripes { m with Pending:=[] }=_
  rw[k2]
  simp only[f2]
 refine ⟨by rw[he],m,k,hm,hpm,f1,k1,hfin,f3,f4,f5,f6,f2,k3,k4,k5,?_⟩
 rw[hfin]
 have hl:((m.Ripes.take k).map matT).length=k:=by rw[List.length_map,List.length_take];omega
 refine zn9 ⟨by show (m.On&&m.Gone)=false;rw[f3,f4];exact g1.1,by show 0≤m.Height;rw[f5];show 0≤c.Height+1;have:=g1.2;omega,?_,by show 0≤m.Time;rw[f6];exact hn0,by show m.Time≤_;rw[f6];exact ht.2,hpm.id0,hpm.id1⟩ ?_ hpm.set ?_ rfl
 ·show m.Height < _;rw[f5];show c.Height+1 < _
  exact hh
 ·have:=zadl (n:=0) g2 (t:=(m.Ripes.take k).map matT) (u:=now+40) (by omega) (by rw[hl];exact k5)
  rw[hl] at this
  exact this
 ·show (m.Ripes.drop k).all zjd=true
  rw[List.all_eq_true]
  intro r hr
  exact List.all_eq_true.1 hpm.ripes r (List.mem_of_mem_drop hr)
theorem z1g {w w':Wld} (h:OkW w) (hd:w.deeds < 600) (e1:w'.deeds=w.deeds+1) (e2:w'.clock=w.clock) (p:GoodX w'.p) (ph:w'.p.Height≤w.deeds+1) (pt:w'.p.Time≤w.clock) (pq:((w'.p.Queue.length:Nat):Int)≤w.deeds+1)
  {i:Int} (ci:ConsW w' i) (cj:∀ j:Int,0≤j∧j < 2→j≠i→zb w'.consumers j=zb w.consumers j∧SameL w'.p w.p j):OkW w':=by
 have d0:=h.d0
 refine ⟨by omega,by omega,by rw[e2];exact h.t0,by rw[e2];exact h.t1,p,by omega,by omega,by omega,fun j hj=>?_⟩
 by_cases e:j=i
 ·rw[e];exact ci
 ·obtain ⟨c1,c2⟩:=cj j hj e
  exact (h.c j hj).more c1 c2 (by omega) (by omega)
theorem z5p {w w':Wld} (h:OkW w) (hd:w.deeds < 600) (e1:w'.deeds=w.deeds+1) (e2:w'.clock=w.clock) (e3:w'.p=w.p) {i:Int} (hi:0≤i∧i < 2) {c:zc} (hc:w'.consumers=zk0 w.consumers i c)
  (good:zie c=true) (height:c.Height≤w.deeds+1) (time:c.Time≤w.clock) (size:((c.Pending.length+c.Ripes.length:Nat):Int)≤w.deeds+1) (on:c.On=(zb w.consumers i).On) (gone:c.Gone=(zb w.consumers i).Gone)
  (said:∀ s,s∈c.Out.Said→PkB s) (ho:(zb w.consumers i).On=true):OkW w':=by
 have hw:=h.c i hi
 have hci:zb w'.consumers i=c:=by rw[hc,zd2 hi]
 refine z1g (i:=i) h hd e1 e2 (by rw[e3];exact h.p) (by rw[e3];have:=h.ph;omega) (by rw[e3];exact h.pt) (by rw[e3];have:=h.pq;omega) ?_ fun j hj hji=>⟨by rw[hc,zcw hi hj hji],by rw[e3];exact .refl _ _⟩
 have on':w.p.Links.On.get i=true:=by rw[← hw.on];exact ho
 refine ⟨by rw[hci];exact good,by rw[hci,e1];exact height,by rw[hci,e2];exact time,by rw[hci,e1];exact size,by rw[hci,e3,on];exact hw.on,by rw[hci,e3,gone];exact hw.gone,by rw[e3];exact hw.told,by rw[hci];exact said,fun k=>?_⟩
 rw[e3,on'] at k;cases k
theorem zag0 {a b:ByteArray} (h:a.toList=b.toList):a=b:=by
 rw[ByteArray.toList_eq,ByteArray.toList_eq] at h
 obtain ⟨⟨a⟩⟩:=a
 obtain ⟨⟨b⟩⟩:=b
 simp only at h
 rw[h]
theorem zan8 {r:Ripe} (h:zjd r=true):PkB (matT r):=⟨matP r,z7y h,by unfold matP;simp,rfl⟩
theorem z91 {w:Wld} (h:OkW w) (hd:w.deeds < 600) {i:Int} (hi:0≤i∧i < 2) (ho:(zb w.consumers i).On=true):OkW (ztf (zat w) i).1:=by
 have hc:=h.c i hi
 have h1:=h.t1
 have hh:=hc.height
 obtain ⟨e0,m,k,hm,hpm,hl,hk,hf,f1,f2,f3,f4,f5,f6,f7,f8,hg⟩:=ztg hc.good ho ⟨hc.time,by omega⟩ (by omega)
 unfold ztf
 rw[if_neg (by show ¬ (z3a w.clock (zb w.consumers i)).2≠0;rw[e0];simp)]
 refine z5p h hd rfl rfl rfl hi (c:=(z3a w.clock (zb w.consumers i)).1) rfl hg ?_ ?_ ?_ ?_ ?_ ?_ ho
 all_goals rw[hf]
 ·show m.Height≤_;rw[f3];omega
 ·show m.Time≤_;rw[f4];omega
 ·have:=hc.size
  simp only[List.length_nil,List.length_drop]
  omega
 ·exact f1
 ·exact f2
 ·intro s hs
  rcases List.mem_append.1 hs with hs | hs
  ·exact hc.said s hs
  ·obtain ⟨r,hr,rfl⟩:=List.mem_map.1 hs
   exact zan8 (List.all_eq_true.1 hpm.ripes r (List.mem_of_mem_take hr))
theorem z1h {c:zc} (hg:zie c=true) {q:Packet} (hq:q.Kind≠1) {now:Int} (h:(zrk q now c).1=0) :
  zct q=0∧0≤i64.wrap (now+40)∧c.Out.Closed=false∧c.Out.Said.length < 400∧(zrk q now c).2={ c with Out:={ c.Out with Said:=c.Out.Said++[txt (znm q)],Due:=c.Out.Due++[i64.wrap (now+40)] } }∧zie (zrk q now c).2=true:=by
 obtain ⟨k1,k2,k3⟩:=zagd h
 obtain ⟨l1,l2,l3,l4,_⟩:=z9p k2
 obtain ⟨g1,g2,g3,g4,g5⟩:=zb5 hg
 refine ⟨k1,l2,l3,l4,by rw[k3],?_⟩
 rw[k3]
 exact zn9 g1 (z3c l1 l2 l4) g3 g4 g5
theorem zag1 {w w':Wld} (h:OkW w) (hd:w.deeds < 600) (e1:w'.deeds=w.deeds+1) (e2:w'.clock=w.clock) (e3:w'.p=w.p) {i:Int} (hi:0≤i∧i < 2) (ho:(zb w.consumers i).On=true) {q:Packet} (hq:q.Kind≠1) (hs:(zrk q w.clock (zb w.consumers i)).1=0) {f:A6 Bool}
  (hc:w'.consumers=zk0 w.consumers i { (zrk q w.clock (zb w.consumers i)).2 with Flags:=f }):OkW w':=by
 have hw:=h.c i hi
 obtain ⟨s1,s2,s3,s4,s5,s6⟩:=z1h hw.good hq hs
 obtain ⟨g1,g2,g3,g4,g5⟩:=zb5 s6
 have hz:=hw.size;have hh:=hw.height;have ht:=hw.time
 refine z5p h hd e1 e2 e3 hi hc (zn9 g1 g2 g3 g4 g5) ?_ ?_ ?_ ?_ ?_ ?_ ho
 all_goals rw[s5]
 ·show (zb w.consumers i).Height≤_;omega
 ·exact ht
 ·show (((zb w.consumers i).Pending.length+(zb w.consumers i).Ripes.length:Nat):Int)≤_;omega
 ·intro s hs
  rcases List.mem_append.1 hs with hs | hs
  ·exact hw.said s hs
  ·rw[List.mem_singleton.1 hs];exact ⟨q,s1,hq,rfl⟩
theorem zab0 {w:Wld} (h:OkW w) (hd:w.deeds < 600) {i:Int} {r:zc×Int} (hr:r.2=0→OkW { zat w with consumers:=zk0 w.consumers i r.1 }):OkW (putW (zat w) i r).1:=by
 unfold putW
 by_cases e:r.2=0
 ·rw[if_neg (by simpa using e)];exact hr e
 ·rw[if_pos e];exact zi9 h hd
theorem zaj3 {w:Wld} (h:OkW w) (hd:w.deeds < 600) {i:Int} (hi:0≤i∧i < 2) (ho:(zb w.consumers i).On=true) (v:Int):OkW (putW (zat w) i (z04 (zb w.consumers i) v w.clock)).1:=by
 refine zab0 h hd fun h0=>?_
 obtain ⟨_,_,_,_,_,_,_,hs,he⟩:=zabj h0
 rw[he]
 exact zag1 h hd rfl rfl rfl hi ho (by simp) hs rfl
theorem zadm {w:Wld} (h:OkW w) (hd:w.deeds < 600) {i:Int} (hi:0≤i∧i < 2) (ho:(zb w.consumers i).On=true) (v n:Int):OkW (putW (zat w) i (zo4 (zb w.consumers i) v n w.clock)).1:=by
 refine zab0 h hd fun h0=>?_
 unfold zo4 at h0 ⊢
 by_cases h1:zie (zb w.consumers i)=false∨w.clock < 0∨1099511627776 < w.clock
 ·rw[if_pos h1] at h0;cases h0
 rw[if_neg h1] at h0 ⊢
 by_cases h2:(zb w.consumers i).On=false∨v < 0∨5 < v
 ·rw[if_pos h2] at h0;cases h0
 rw[if_neg h2] at h0 ⊢
 by_cases h3:n < 1∨(zb w.consumers i).Id < n
 ·rw[if_pos h3] at h0;cases h0
 rw[if_neg h3] at h0 ⊢
 exact zag1 h hd rfl rfl rfl hi ho (q:=⟨4,n,v,maxC (zb w.consumers i) v,[],[]⟩) (by simp) h0 (f:=(zrk ⟨4,n,v,maxC (zb w.consumers i) v,[],[]⟩ w.clock (zb w.consumers i)).2.Flags) rfl
theorem zadn {p:za} (h:GoodX p) {i:Int} (hi:0≤i∧i < 2) {l:zid} (hl:zds l):GoodX { p with Links:=zyg p.Links i l }:=by
 have hlk:∀ j:Int,0≤j∧j < 2→LkX { p with Links:=zyg p.Links i l } j:=by
  intro j hj
  obtain ⟨a1,a2,a3,a4,a5,a6⟩:=h.lk hj
  refine ⟨a1,a2,a3,a4,?_,a6⟩
  rw[zve,zte hi hj]
  split
  ·exact hl
  ·exact a5
 exact ⟨h.1,h.2.1,h.2.2.1,okLk_iff.2 (hlk 0 (by omega)),okLk_iff.2 (hlk 1 (by omega)),h.2.2.2.2.2⟩
theorem zado {p:za} (h:GoodX p) (i:Int) (s:z98):GoodX { p with Links:=zxu p.Links i s }:=by
 have hlk:∀ j:Int,0≤j∧j < 2→LkX { p with Links:=zxu p.Links i s } j:=by
  intro j hj
  obtain ⟨a1,a2,a3,a4,a5,a6⟩:=h.lk hj
  exact ⟨a1,a2,a3,a4,a5,a6⟩
 exact ⟨h.1,h.2.1,h.2.2.1,okLk_iff.2 (hlk 0 (by omega)),okLk_iff.2 (hlk 1 (by omega)),h.2.2.2.2.2⟩
theorem zag2 {w:Wld} (h:OkW w) (hd:w.deeds < 600) {i:Int} (hi:0≤i∧i < 2) (ho:(zb w.consumers i).On=true) (back:Bool):OkW (z3h (zat w) i back).1:=by
 unfold z3h
 have hw:=h.c i hi
 cases back with
 | true =>
  rw[if_pos rfl]
  refine z5o (zi9 h hd) (zado h.p i _) rfl rfl rfl fun j hj=>⟨rfl,rfl,?_⟩
  rfl
 | false =>
  rw[if_neg (by simp)]
  obtain ⟨g1,g2,g3,g4,g5⟩:=zb5 hw.good
  have hz:=hw.size;have hh:=hw.height
  exact z5p h hd rfl rfl rfl hi rfl (zn9 g1 g2 g3 g4 g5) (by show (zb w.consumers i).Height≤_;omega) hw.time (by show (((zb w.consumers i).Pending.length+(zb w.consumers i).Ripes.length:Nat):Int)≤_;omega) rfl rfl hw.said ho
theorem z3j {w:Wld} {d:Deed} (h:(zlg w d).2=0):zds (zda w d.C d.Back)∧(zda w d.C d.Back).Closed=false∧(zda w d.C d.Back).Got+1≤((zda w d.C d.Back).Said.length:Int)∧(zda w d.C d.Back).Got+1≤z5m w d.C d.Back ∧
  zi8 (zda w d.C d.Back) d.Forged=(zda w d.C d.Back).Said.getD (zda w d.C d.Back).Got.toNat .empty∧w.clock < (zda w d.C d.Back).Due.getD (zda w d.C d.Back).Got.toNat 0 ∧
  (zlg w d).1={ zda w d.C d.Back with Got:=(zda w d.C d.Back).Got+1 }∧zds (zlg w d).1:=by
 have hs:(zda w d.C d.Back).Got+1≤z5m w d.C d.Back:=by
  unfold zlg zl4 at h
  by_cases h1:¬ zds (zda w d.C d.Back)
  ·rw[if_pos h1] at h;cases h
  rw[if_neg h1] at h
  have hl:=Classical.not_not.1 h1
  have e4:(zda w d.C d.Back).Said.length≤400:=hl.2.1
  have hw:i64.wrap ((zda w d.C d.Back).Got+1)=(zda w d.C d.Back).Got+1:=zk (by have:=hl.2.2.1;omega) (by have:=hl.2.2.2.1;omega)
  rw[hw] at h
  by_cases h2:(zda w d.C d.Back).Closed=true
  ·rw[if_pos h2] at h;cases h
  rw[if_neg h2,if_neg (by simp)] at h
  by_cases h3:z5m w d.C d.Back < (zda w d.C d.Back).Got+1∨((zda w d.C d.Back).Said.length:Int) < (zda w d.C d.Back).Got+1∨((zda w d.C d.Back).Said.getD (zda w d.C d.Back).Got.toNat .empty).toList≠(zi8 (zda w d.C d.Back) d.Forged).toList
  ·rw[if_pos h3] at h;cases h
  ·simp only[not_or] at h3;omega
 obtain ⟨h1,h2,h3,h4,h5,h6,h7⟩:=zacp h
 have e4:(zda w d.C d.Back).Said.length≤400:=h1.2.1
 have hw:i64.wrap ((zda w d.C d.Back).Got+1)=(zda w d.C d.Back).Got+1:=zk (by have:=h1.2.2.1;omega) (by have:=h1.2.2.2.1;omega)
 rw[hw] at h4
 have he:(zlg w d).1={ zda w d.C d.Back with Got:=(zda w d.C d.Back).Got+1 }:=by
  unfold zlg
  rw[h7,hw]
 refine ⟨h1,Bool.eq_false_iff.2 h2,h4,hs,?_,h6,he,?_⟩
 ·exact (zag0 h5).symm
 ·rw[he]
  obtain ⟨g1,g2,g3,g4,g5⟩:=h1
  exact ⟨g1,g2,by show 0≤(zda w d.C d.Back).Got+1;omega,h4,g5⟩
theorem z1i {c:zc} (hg:zie c=true) {s:List UInt8} (h:(zsv c s).2=0):c.On=true∧zct (zas s).1=0∧(zas s).1.Kind=1∧(zas s).2=0∧(zsv c s).1={ c with Pending:=c.Pending++[(zas s).1] }∧zie (zsv c s).1=true:=by
 unfold zsv at h ⊢
 rw[if_neg (by rw[hg];simp)] at h ⊢
 by_cases h1:c.On=false
 ·rw[if_pos h1] at h;cases h
 rw[if_neg h1] at h ⊢
 by_cases h2:(zas s).2=0
 ·rw[if_neg (by simpa using h2)] at h ⊢
  by_cases h3:(zas s).1.Kind=1
  ·rw[if_neg (by simpa using h3)]
   have gp:=zabu h2
   refine ⟨by simpa using h1,gp,h3,h2,rfl,?_⟩
   obtain ⟨g1,g2,g3,g4,g5⟩:=zb5 hg
   refine zn9 g1 g2 g3 g4 ?_
   show (c.Pending++[(zas s).1]).all zlm=true
   rw[List.all_append,g5]
   simp[zlm,gp,h3]
  ·rw[if_pos h3] at h;cases h
 ·rw[if_pos h2] at h;exact absurd h h2
theorem zyi {p:za} (hg:zal p=true) {i:Int} {s:List UInt8} (h:(zln p i s).2=0):(0≤i∧i < 2)∧p.Links.On.get i=true∧zct (zas s).1=0∧(zas s).1.Kind≠1∧(zas s).2=0∧(zln p i s).1={ p with Queue:=p.Queue++[⟨i,(zas s).1⟩] }∧GoodX (zln p i s).1:=by
 unfold zln at h ⊢
 rw[if_neg (by rw[hg];simp)] at h ⊢
 by_cases h1:(0≤i∧i < 2)∧p.Links.On.get i=true
 ·rw[if_pos h1] at h ⊢
  by_cases h2:(zas s).2=0
  ·rw[if_neg (by simpa using h2)] at h ⊢
   by_cases h3:(zas s).1.Kind=1
   ·rw[if_pos h3] at h;cases h
   ·rw[if_neg h3]
    have gp:=zabu h2
    have hx:=(goodPr_iff.1 hg).1
    refine ⟨h1.1,h1.2,gp,h3,h2,rfl,hx.1,hx.2.1,hx.2.2.1,hx.2.2.2.1,hx.2.2.2.2.1,?_⟩
    show (p.Queue++[_]).all _=true
    rw[List.all_append,yy7]
    refine ⟨hx.2.2.2.2.2,List.all_eq_true.2 fun b hb=>?_⟩
    rw[List.mem_singleton.1 hb]
    exact ask_iff.2 ⟨h1.1,h1.2,gp,h3⟩
  ·rw[if_pos h2] at h;exact absurd h h2
 ·rw[if_neg h1] at h;cases h
theorem z92 {w:Wld} (h:OkW w) (hd:w.deeds < 600) {d:Deed} (hi:0≤d.C∧d.C < 2) (ho:(zb w.consumers d.C).On=true):OkW (zoa (zat w) d).1:=by
 have hw:=h.c d.C hi
 unfold zoa
 by_cases h0:(zlg w d).2=0
 ·rw[if_neg (by show ¬ (zlg w d).2≠0;simpa using h0)]
  obtain ⟨f1,f2,f3,f4,f5,f6,f7,f8⟩:=z3j h0
  cases hb:d.Back with
  | true =>
   rw[if_pos rfl]
   rw[hb] at f5
   have e0:zda w d.C true=(zb w.consumers d.C).Out:=rfl
   by_cases h1:(zln w.p d.C (zi8 (zda w d.C true) d.Forged).data.toList).2=0
   ·rw[if_neg (by show ¬ (zln w.p d.C (zi8 (zda w d.C true) d.Forged).data.toList).2≠0;simpa using h1)]
    obtain ⟨q1,q2,q3,q4,q5,q6,q7⟩:=zyi h.pr h1
    obtain ⟨g1,g2,g3,g4,g5⟩:=zb5 hw.good
    have hz:=hw.size;have hh:=hw.height;have hp:=h.ph;have hq:=h.pq
    have hr:(zlg w d).1={ (zb w.consumers d.C).Out with Got:=(zb w.consumers d.C).Out.Got+1 }:=by rw[f7,hb];rfl
    have e6:(zln (zat w).p d.C (zi8 (zda (zat w) d.C true) d.Forged).data.toList).1={ w.p with Queue:=w.p.Queue++[⟨d.C,(zas (zi8 (zda w d.C true) d.Forged).data.toList).1⟩] }:=q6
    simp only[e6]
    refine z1g (i:=d.C) h hd rfl rfl (by rw[← q6];exact q7) (by show w.p.Height≤_;omega) h.pt (by show (((w.p.Queue++[_]).length:Nat):Int)≤_;rw[yy6,yy5];omega) ?_ fun j hj hji=>⟨zcw hi hj hji _,rfl,rfl,rfl⟩
    have hci:zb (zk0 (zat w).consumers d.C { zb (zat w).consumers d.C with Out:=(zlg (zat w) d).1 }) d.C={ zb w.consumers d.C with Out:=(zlg w d).1 }:=zd2 hi _
    refine ⟨?_,?_,?_,?_,?_,?_,hw.told,?_,fun k=>?_⟩
    ·rw[hci];exact zn9 g1 f8 g3 g4 g5
    ·rw[hci];show (zb w.consumers d.C).Height≤w.deeds+1;omega
    ·rw[hci];exact hw.time
    ·rw[hci];show (((zb w.consumers d.C).Pending.length+(zb w.consumers d.C).Ripes.length:Nat):Int)≤w.deeds+1;omega
    ·rw[hci];exact hw.on
    ·rw[hci];exact hw.gone
    ·rw[hci];show ∀ s,s∈(zlg w d).1.Said→PkB s;rw[hr];exact hw.said
    ·have k':w.p.Links.On.get d.C=false:=k
     rw[q2] at k';cases k'
   ·rw[if_pos (by exact h1)];exact zi9 h hd
  | false =>
   rw[if_neg (by simp)]
   rw[hb] at f5
   by_cases h1:(zsv (zb w.consumers d.C) (zi8 (zda w d.C false) d.Forged).data.toList).2=0
   ·rw[if_neg (by show ¬ (zsv (zb w.consumers d.C) (zi8 (zda w d.C false) d.Forged).data.toList).2≠0;simpa using h1)]
    obtain ⟨q1,q2,q3,q4,q5,q6⟩:=z1i hw.good h1
    have hz:=hw.size;have hh:=hw.height;have hp:=h.ph;have hq:=h.pq
    have hr:(zlg w d).1={ (ze w.p.Links d.C).Out with Got:=(ze w.p.Links d.C).Out.Got+1 }:=by rw[f7,hb];rfl
    have on':w.p.Links.On.get d.C=true:=by rw[← hw.on];exact ho
    refine z1g (i:=d.C) h hd rfl rfl (zadn h.p hi f8) (by show w.p.Height≤_;omega) h.pt (by show ((w.p.Queue.length:Nat):Int)≤_;omega) ?_ fun j hj hji=>⟨zcw hi hj hji _,rfl,rfl,?_⟩
    ·have hci:zb (zk0 (zat w).consumers d.C (zsv (zb (zat w).consumers d.C) (zi8 (zda (zat w) d.C false) d.Forged).data.toList).1) d.C=(zsv (zb w.consumers d.C) (zi8 (zda w d.C false) d.Forged).data.toList).1:=zd2 hi _
     refine ⟨?_,?_,?_,?_,?_,?_,?_,?_,fun k=>?_⟩
     ·rw[hci];exact q6
     ·rw[hci,q5];show (zb w.consumers d.C).Height≤w.deeds+1;omega
     ·rw[hci,q5];exact hw.time
     ·rw[hci,q5]
      show ((((zb w.consumers d.C).Pending++[_]).length+(zb w.consumers d.C).Ripes.length:Nat):Int)≤w.deeds+1
      rw[yy6,yy5];omega
     ·rw[hci,q5];exact hw.on
     ·rw[hci,q5];exact hw.gone
     ·show ∀ s,s∈(ze (zyg w.p.Links d.C (zlg w d).1) d.C).Out.Said→Pk1 s
      rw[zte hi hi,if_pos rfl,hr];exact hw.told
     ·rw[hci,q5];exact hw.said
     ·have k':w.p.Links.On.get d.C=false:=k
      rw[on'] at k';cases k'
    ·show (ze (zyg w.p.Links d.C (zlg w d).1) j).Out.Said=_
     rw[zte hi hj,if_neg hji]
   ·rw[if_pos (by exact h1)];exact zi9 h hd
 ·rw[if_pos (by exact h0)];exact zi9 h hd
theorem z93 {w:Wld} (h:OkW w) (hd:w.deeds < 600):OkW (zke (zat w)).1:=by
 have ht:zal w.p=true∧w.p.Time≤w.clock∧w.clock≤1099511627776:=⟨h.pr,h.pt,by have:=h.t1;omega⟩
 unfold zke
 rw[if_neg (by show ¬ (zif w.p w.clock).2.2≠0;rw[zagu ht];simp)]
 obtain ⟨r1,r2,r3,r4,r5,r6,r7,r8⟩:=z5l ht
 obtain ⟨S,D,M,e,hS,hdn,hl,hm⟩:=zze ht.1 w.clock
 have hg:=zajx ht.1 ht.2
 have hp:=h.ph;have hq:=h.pq;have d0:=h.d0
 refine ⟨by show 0≤w.deeds+1;omega,by show w.deeds+1≤600;omega,h.t0,h.t1,hg,by show (zif w.p w.clock).1.Height≤w.deeds+1;rw[r1];omega,by show (zif w.p w.clock).1.Time≤w.clock;rw[r2];exact Int.le_refl _,by show (((zif w.p w.clock).1.Queue.length:Nat):Int)≤w.deeds+1;rw[r5];omega,fun i hi=>?_⟩
 obtain ⟨D',-,hD⟩:=zabw ht hi
 have hw:=h.c i hi
 have hz:=hw.size;have hh:=hw.height
 have o1:(zif w.p w.clock).1.Links.On.get i=w.p.Links.On.get i:=by rw[r6]
 have o2:(zif w.p w.clock).1.Links.Gone.get i=w.p.Links.Gone.get i:=by rw[r7]
 refine ⟨hw.good,by show (zb w.consumers i).Height≤w.deeds+1;omega,hw.time,by show (((zb w.consumers i).Pending.length+(zb w.consumers i).Ripes.length:Nat):Int)≤w.deeds+1;omega,hw.on.trans o1.symm,hw.gone.trans o2.symm,?_,hw.said,?_⟩
 ·show ∀ s,s∈(ze (zif w.p w.clock).1.Links i).Out.Said→Pk1 s
  rw[← zve]
  rcases hD with ⟨-,-,-,e4,-⟩ | ⟨-,-,-,-,-,-,-,e8,e9⟩
  ·rw[e4];exact hw.told
  ·rw[e9]
   intro s hs
   rcases List.mem_append.1 hs with hs | hs
   ·exact hw.told s hs
   ·rw[List.mem_singleton.1 hs];exact ⟨_,e8,rfl,rfl⟩
 ·intro k1 k2
  have k1':w.p.Links.On.get i=false:=o1.symm.trans k1
  obtain ⟨c1,c2⟩:=hw.fresh k1' (o2.symm.trans k2)
  refine ⟨c1,?_⟩
  show (ze (zif w.p w.clock).1.Links i).Out.Said=[]
  rw[← zve]
  rcases hD with ⟨-,-,-,e4,-⟩ | ⟨-,-,-,e4,-⟩
  ·rw[e4];exact c2
  ·rw[k1'] at e4;cases e4
theorem zkz {L:Links} {i j H:Int} {T:List Power} {f:Bool} (hi:0≤i∧i < 2) (hj:0≤j∧j < 2):ze (zgo L i H T f) j=if j=i then ⟨true,false,H,T,f,[],⟨[],[],0,false⟩,⟨0,0,0,0⟩⟩ else ze L j:=by
 unfold ze zgo
 simp only[zaj _ _ hi hj]
 by_cases e:j=i
 ·simp only[if_pos e]
 ·simp only[if_neg e]
theorem zvf {p:za} {i:Int} (h:(zdj p i).2=0):zal p=true∧(0≤i∧i < 2)∧p.Links.Gone.get i=false∧p.Links.On.get i=false∧1≤p.Height∧p.Set.length≠0∧(zdj p i).1=zlo p i (p.Stake.Waits.map (zhf i p.Height)) (ztp p):=by
 unfold zdj at h ⊢
 cases hg:zal p with
 | false=>rw[if_pos hg] at h;cases h
 | true =>
  rw[if_neg (by rw[hg];simp)] at h
  rw[if_neg (by simp)]
  by_cases hi:0≤i∧i < 2
  ·rw[if_pos hi] at h ⊢
   by_cases h1:p.Links.Gone.get i=true
   ·rw[if_pos h1] at h;cases h
   rw[if_neg h1] at h ⊢
   by_cases h2:p.Links.On.get i=true
   ·rw[if_pos h2] at h;cases h
   rw[if_neg h2] at h ⊢
   by_cases h3:p.Height < 1∨p.Set.length=0
   ·rw[if_pos h3] at h;cases h
   rw[if_neg h3]
   simp only[not_or] at h3
   exact ⟨rfl,hi,Bool.eq_false_iff.2 h1,Bool.eq_false_iff.2 h2,by omega,h3.2,rfl⟩
  ·rw[if_neg hi] at h;cases h
theorem zadp {p:za} (hx:GoodX p) {i:Int} (hi:0≤i∧i < 2) (ho:p.Links.On.get i=false):GoodX (zlo p i (p.Stake.Waits.map (zhf i p.Height)) (ztp p)):=by
 obtain ⟨b1,b2,b3,b4,b5,b6,b7⟩:=hx.1
 have hf:∀ w,(zhf i p.Height w).Number=w.Number∧(zhf i p.Height w).D=w.D∧(zhf i p.Height w).V=w.V∧(zhf i p.Height w).Amount=w.Amount∧(zhf i p.Height w).Height=w.Height∧(zhf i p.Height w).Due=w.Due:=by
  intro w;unfold zhf;split<;>exact ⟨rfl,rfl,rfl,rfl,rfl,rfl⟩
 have gs:GoodS { p.Stake with Waits:=p.Stake.Waits.map (zhf i p.Height) }:=by
  refine ⟨b1,⟨b2.1,b2.2.1,by show (p.Stake.Waits.map _).length≤60;rw[List.length_map];exact b2.2.2⟩,b3,zta (fun w hw=>⟨(hf w).1,(hf w).2.1,(hf w).2.2.1,by rw[(hf w).2.2.2.1];exact hw,(hf w).2.2.2.2.1,(hf w).2.2.2.2.2⟩) b4,b5,?_,b7⟩
  show zo8 (p.Stake.Waits.map _)=_
  rw[z5g (fun w=>(hf w).2.2.2.1)];exact b6
 have hlk:∀ j:Int,0≤j∧j < 2→LkX (zlo p i (p.Stake.Waits.map (zhf i p.Height)) (ztp p)) j:=by
  intro j hj
  obtain ⟨a1,a2,a3,a4,a5,a6⟩:=hx.lk hj
  have el:=zkz (L:=p.Links) (H:=p.Height) (T:=p.Set) (f:=ztp p) hi hj
  by_cases e:j=i
  ·rw[if_pos e] at el
   have z:=hx.2.1.1
   exact ⟨by show ¬ ((ze (zgo p.Links i p.Height p.Set (ztp p)) j).On=true∧(ze (zgo p.Links i p.Height p.Set (ztp p)) j).Gone=true);rw[el];simp,by show 0≤(ze (zgo p.Links i p.Height p.Set (ztp p)) j).Base;rw[el];exact z,
    by show (ze (zgo p.Links i p.Height p.Set (ztp p)) j).Base≤p.Height;rw[el];exact Int.le_refl _,by show zw 1 (-1) (ze (zgo p.Links i p.Height p.Set (ztp p)) j).Told=true;rw[el];exact hx.2.2.1,
    by show zds (ze (zgo p.Links i p.Height p.Set (ztp p)) j).Out;rw[el];exact z05,by show zak (-1) (ze (zgo p.Links i p.Height p.Set (ztp p)) j).Done=true;rw[el];rfl⟩
  ·rw[if_neg e] at el
   exact ⟨by show ¬ ((ze (zgo p.Links i p.Height p.Set (ztp p)) j).On=true∧(ze (zgo p.Links i p.Height p.Set (ztp p)) j).Gone=true);rw[el];exact a1,by show 0≤(ze (zgo p.Links i p.Height p.Set (ztp p)) j).Base;rw[el];exact a2,
    by show (ze (zgo p.Links i p.Height p.Set (ztp p)) j).Base≤p.Height;rw[el];exact a3,by show zw 1 (-1) (ze (zgo p.Links i p.Height p.Set (ztp p)) j).Told=true;rw[el];exact a4,
    by show zds (ze (zgo p.Links i p.Height p.Set (ztp p)) j).Out;rw[el];exact a5,by show zak (-1) (ze (zgo p.Links i p.Height p.Set (ztp p)) j).Done=true;rw[el];exact a6⟩
 refine ⟨gs,hx.2.1,hx.2.2.1,okLk_iff.2 (hlk 0 (by omega)),okLk_iff.2 (hlk 1 (by omega)),List.all_eq_true.2 fun b hb=>ask_iff.2 ?_⟩
 obtain ⟨q1,q2,q3,q4⟩:=hx.ask hb
 refine ⟨q1,?_,q3,q4⟩
 show (p.Links.On.set i true).get b.C=true
 rw[zaj _ _ hi q1]
 split
 ·rfl
 ·exact q2
theorem zag3 {w:Wld} (h:OkW w) (hd:w.deeds < 600) (i:Int):OkW (zyh (zat w) i).1:=by
 unfold zyh
 by_cases h0:(zdj w.p i).2=0
 ·rw[if_neg (by show ¬ (zdj w.p i).2≠0;simpa using h0)]
  obtain ⟨f1,hi,f3,f4,f5,f6,f7⟩:=zvf h0
  have hgb:=zadp h.p hi f4
  have hp:=h.ph;have hq:=h.pq;have d0:=h.d0;have d1:=h.d1
  have e6:(zdj (zat w).p i).1=zlo w.p i (w.p.Stake.Waits.map (zhf i w.p.Height)) (ztp w.p):=f7
  simp only[e6]
  refine z1g (i:=i) h hd rfl rfl hgb (by show w.p.Height≤_;omega) h.pt (by show ((w.p.Queue.length:Nat):Int)≤_;omega) ?_ fun j hj hji=>⟨zcw hi hj hji _,.of ?_⟩
  ·have hci:zb (zk0 (zat w).consumers i (zn7 w.p.Set w.p.Height w.clock)) i=zn7 w.p.Set w.p.Height w.clock:=zd2 hi _
   have el:=zkz (L:=w.p.Links) (H:=w.p.Height) (T:=w.p.Set) (f:=ztp w.p) hi hi
   rw[if_pos rfl] at el
   have t0:=h.t0;have t1:=h.t1;have z:=h.p.2.1.1
   refine ⟨?_,?_,?_,?_,?_,?_,?_,?_,fun k=>?_⟩
   ·show zie (zb (zk0 (zat w).consumers i (zn7 w.p.Set w.p.Height w.clock)) i)=true
    rw[hci]
    exact zn9 ⟨rfl,by show (0:Int)≤0;omega,by show (0:Int) < _;omega,t0,by show w.clock≤_;omega,z,by show w.p.Height≤_;omega⟩ z05 h.p.2.2.1 rfl rfl
   ·show (zb (zk0 (zat w).consumers i (zn7 w.p.Set w.p.Height w.clock)) i).Height≤w.deeds+1
    rw[hci];show (0:Int)≤_;omega
   ·show (zb (zk0 (zat w).consumers i (zn7 w.p.Set w.p.Height w.clock)) i).Time≤w.clock
    rw[hci];exact Int.le_refl _
   ·show (((zb (zk0 (zat w).consumers i (zn7 w.p.Set w.p.Height w.clock)) i).Pending.length+(zb (zk0 (zat w).consumers i (zn7 w.p.Set w.p.Height w.clock)) i).Ripes.length:Nat):Int)≤w.deeds+1
    rw[hci];show ((0:Nat):Int)≤_;omega
   ·show (zb (zk0 (zat w).consumers i (zn7 w.p.Set w.p.Height w.clock)) i).On=(ze (zgo w.p.Links i w.p.Height w.p.Set (ztp w.p)) i).On
    rw[hci,el];rfl
   ·show (zb (zk0 (zat w).consumers i (zn7 w.p.Set w.p.Height w.clock)) i).Gone=(ze (zgo w.p.Links i w.p.Height w.p.Set (ztp w.p)) i).Gone
    rw[hci,el];rfl
   ·show ∀ s,s∈(ze (zgo w.p.Links i w.p.Height w.p.Set (ztp w.p)) i).Out.Said→Pk1 s
    rw[el];intro s hs;cases hs
   ·show ∀ s,s∈(zb (zk0 (zat w).consumers i (zn7 w.p.Set w.p.Height w.clock)) i).Out.Said→PkB s
    rw[hci];intro s hs;cases hs
   ·have k':(ze (zgo w.p.Links i w.p.Height w.p.Set (ztp w.p)) i).On=false:=k
    rw[el] at k';cases k'
  ·show ze (zgo w.p.Links i w.p.Height w.p.Set (ztp w.p)) j=_
   rw[zkz hi hj,if_neg hji]
 ·rw[if_pos (by exact h0)];exact zi9 h hd
theorem zo6 {L:Links} {i j:Int} (hi:0≤i∧i < 2) (hj:0≤j∧j < 2):ze (ztd L i) j=if j=i then { ze L j with On:=false,Gone:=true,Fresh:=false,Done:=[],Out:={ (ze L j).Out with Closed:=true } } else ze L j:=by
 unfold ze ztd
 simp only[zaj _ _ hi hj]
 by_cases e:j=i
 ·simp only[if_pos e]
 ·simp only[if_neg e]
theorem z7z {w:Wld} (h:OkW w) {i:Int} (hi:0≤i∧i < 2) (ho:(zb w.consumers i).On=true):zq4 w.p i=zq3 w.p i∧zvc (zb w.consumers i)={ zb w.consumers i with On:=false,Gone:=true,Out:={ (zb w.consumers i).Out with Closed:=true } }:=by
 have on':w.p.Links.On.get i=true:=by rw[← (h.c i hi).on];exact ho
 exact ⟨by unfold zq4;rw[if_pos ⟨h.pr,hi,on'⟩],by unfold zvc;rw[if_neg (by rw[ho];simp)]⟩
theorem zadq {w:Wld} (h:OkW w) (hd:w.deeds < 600) {d:Deed} (hi:0≤d.C∧d.C < 2) (ho:(zb w.consumers d.C).On=true):OkW (zsy (zat w) d).1:=by
 unfold zsy
 by_cases h0:(z5n w d).2=0
 ·rw[if_neg (by show ¬ (z5n w d).2≠0;simpa using h0)]
  obtain ⟨f1,f2⟩:=z7z h hi ho
  have hw:=h.c d.C hi
  have e1:zq4 (zat w).p d.C=zq3 w.p d.C:=f1
  have e2:zvc (zb (zat w).consumers d.C)={ zb w.consumers d.C with On:=false,Gone:=true,Out:={ (zb w.consumers d.C).Out with Closed:=true } }:=f2
  simp only[e1,e2]
  obtain ⟨g1,g2,g3,g4,g5⟩:=zb5 hw.good
  have hz:=hw.size;have hh:=hw.height;have hp:=h.ph;have hq:=h.pq
  have hqf:(w.p.Queue.filter (zzd d.C)).length≤w.p.Queue.length:=List.length_filter_le _ _
  have el:=zo6 (L:=w.p.Links) hi hi
  rw[if_pos rfl] at el
  refine z1g (i:=d.C) h hd rfl rfl (goodPr_iff.1 (z7t h.pr hi)).1 (by show w.p.Height≤_;omega) h.pt (by show (((w.p.Queue.filter (zzd d.C)).length:Nat):Int)≤_;omega) ?_ fun j hj hji=>⟨zcw hi hj hji _,.of ?_⟩
  ·have hci:=zd2 (C:=(zat w).consumers) hi { zb w.consumers d.C with On:=false,Gone:=true,Out:={ (zb w.consumers d.C).Out with Closed:=true } }
   refine ⟨?_,?_,?_,?_,?_,?_,?_,?_,fun k k2=>?_⟩
   ·rw[hci];exact zn9 ⟨rfl,g1.2⟩ g2 g3 g4 g5
   ·rw[hci];show (zb w.consumers d.C).Height≤w.deeds+1;omega
   ·rw[hci];exact hw.time
   ·rw[hci];show (((zb w.consumers d.C).Pending.length+(zb w.consumers d.C).Ripes.length:Nat):Int)≤w.deeds+1;omega
   ·rw[hci];exact (congrArg Link.On el).symm
   ·rw[hci];exact (congrArg Link.Gone el).symm
   ·show ∀ s,s∈(ze (ztd w.p.Links d.C) d.C).Out.Said→Pk1 s
    rw[el];exact hw.told
   ·rw[hci];exact hw.said
   ·have k':(ze (ztd w.p.Links d.C) d.C).Gone=false:=k2
    rw[el] at k';cases k'
  ·show ze (ztd w.p.Links d.C) j=_
   rw[zo6 hi hj,if_neg hji]
 ·rw[if_pos (by exact h0)];exact zi9 h hd
theorem z94 {w:Wld} (h:OkW w) (hd:w.deeds < 600) (d:Deed):OkW (zob (zat w) d).1:=by
 have hm:=zi9 h hd
 unfold zob
 by_cases c1:d.Kind < 4∨12 < d.Kind
 ·rw[if_pos c1];exact hm
 rw[if_neg c1]
 by_cases c2:d.C < 0∨2≤d.C
 ·rw[if_pos c2];exact hm
 rw[if_neg c2]
 have hi:0≤d.C∧d.C < 2:=by omega
 by_cases c3:d.Kind≠4∧(zat w).consumers.On.get d.C=false
 ·rw[if_pos c3];exact hm
 rw[if_neg c3]
 by_cases c4:d.Kind=4
 ·rw[if_pos c4];exact zag3 h hd _
 rw[if_neg c4]
 have ho:(zb w.consumers d.C).On=true:=by
  cases e:(zb w.consumers d.C).On with
  | true=>rfl
  | false=>exact absurd ⟨c4,e⟩ c3
 repeat' split
 ·exact z91 h hd hi ho
 ·exact zag2 h hd hi ho _
 ·exact z92 h hd hi ho
 ·exact zadq h hd hi ho
 ·exact zaj3 h hd hi ho _
 ·exact zadm h hd hi ho _ _
 ·exact hm
theorem zan9 {w:Wld} (h:OkW w) (hd:w.deeds < 600) (d:Deed):OkW (actW (zat w) d).1:=by
 have hm:=zi9 h hd
 unfold actW
 repeat' split
 ·exact z7x hm _ _ _
 ·exact z2d hm _ _ _
 ·exact zadj hm _
 ·exact zajz hm _ _
 ·exact zaj0 hm _
 ·exact z93 h hd
 ·exact z94 h hd d
theorem z70 {w:Wld} (h:OkW w) (d:Deed):OkW (doW w d).1:=by
 unfold doW
 split
 ·exact h
 ·rename_i hd;exact zan9 h (by omega) d
theorem zag4:zn3=some newW:=by
 rw[zn3,zu6,Tr.rb zac8,Tr.rl];rfl
theorem zaj4 (w:Wld):zgt w=some (w.clock,w):=by rw[zgt,zhx,Tr.rl]
theorem zth {l:List Power} (h:l.length*16≤140737488355328):zbn l=some l:=by
 rw[zbn,zo0,Tr.rg (by rw[zar];omega),Tr.rl]
theorem zxv {l:List Int} (h:l.length*8≤140737488355328):zbu l=some l:=by
 rw[zbu,zna,Tr.rg (by rw[znf];omega),Tr.rl]
theorem z71 {p:Packet} (h1:p.Set.length*16≤140737488355328) (h2:p.Done.length*8≤140737488355328):zen p=some p:=by
 rw[zen,zo1,zth h1,zxv h2,Tr.rg (by rfl),Tr.rg (by rfl),Tr.rl];rfl
theorem z3k {l:zid} (h1:l.Said.length*16≤140737488355328) (h2:l.Due.length*8≤140737488355328):zbd l=some l:=by
 rw[zbd,znb,zxv h2,Tr.rg (by show (0+l.Said.length)*16≤_;omega),Tr.rg (by rfl),Tr.rl];rfl
theorem z72 {w:Wld} (hf:FitPr 140737488351232 w.p):zcs w=some (w.p,w):=by
 have hw:=hf.waits;have hs:=hf.set;have hq:=hf.queue
 have turn:∀ (c:Nat),c < 2→∀ z,(zao (c:Int) w z w.p).run=some (.inl (((c+1:Nat):Int),w,z,w.p)):=by
  intro c hc z
  have e1:=zth (l:=w.p.Links.Told.get c) (by have:=hf.told c;omega)
  have e2:=zxv (l:=w.p.Links.Done.get c) (by have:=hf.done c;omega)
  have e3:=z3k (l:=(ze w.p.Links c).Out) (by have:=hf.said c;show (w.p.Links.Said.get c).length*16≤_;omega) (by have:=hf.due c;show (w.p.Links.Due.get c).length*8≤_;omega)
  simp only[zao]
  rw[Tr.rt (by simp;omega),Tr.rg ⟨by omega,by omega⟩,e1,e2,e3,Tr.rg (by rfl),Tr.rg (by rfl),Tr.rg (by rfl),Tr.rl,zx (by omega)]
  simp only[yy2]
  have hb:0≤(c:Int)∧(c:Int) < 2:=by omega
  unfold ze
  simp only[zni _ hb]
 have l1:∀ z,zdg 0 w z w.p=some (w,z,w.p):=by
  intro z
  rw[zdg,zc5 (s':=(((1:Nat):Int),w,z,w.p)) (turn 0 (by omega) z),zc5 (s':=(((2:Nat):Int),w,z,w.p)) (turn 1 (by omega) z),zff (by
   show (zao 2 w z w.p).run=_
   simp only[zao]
   rw[Tr.rf (by simp),Tr.rl])]
 have l2:∀ z q,zdh w.p.Queue w.p.Queue.length 0 w z q []=some (w,z,q,w.p.Queue):=by
  intro z q
  rw[zdh]
  have:=zl9 (F:=fun s:(List Asked)×Int×Int×Wld×za×za×(List Asked)=>(za9 s.1 s.2.1 s.2.2.1 s.2.2.2.1 s.2.2.2.2.1 s.2.2.2.2.2.1 s.2.2.2.2.2.2).run) w.p.Queue.length (fun i t=>(w.p.Queue,(w.p.Queue.length:Int),(i:Int),w,z,q,t)) (fun i t=>t=w.p.Queue.take i) (fun _ _=>(w,z,q,w.p.Queue)) ?_ ?_ 0 [] (Nat.zero_le _) rfl
  ·exact this
  ·rintro t rfl
   simp only[za9];rw[Tr.rf (by simp),Tr.rl,List.take_length]
  ·rintro i t hi ht
   obtain ⟨p1,p2⟩:=hf.ps _ (zgj (l:=w.p.Queue) (k:=i) hi default)
   have htl:t.length≤i:=by rw[ht,List.length_take];omega
   refine .inl ⟨t++[w.p.Queue.getD i default],?_,by rw[ht,zj0 hi default],by trivial⟩
   simp only[za9,yy4]
   rw[Tr.rt (by simpa using hi),Tr.rg ⟨by omega,by rw[zev];omega⟩,z71 (by omega) (by omega),Tr.rg (by rfl),Tr.rg (by simp only[zev,yy5];omega),Tr.rl,zx (by omega)]
   rfl
 rw[zcs,zfj,Tr.rg (by rw[zbv];omega),Tr.rb (zth (by omega)),Tr.rb (v:=(w,default,w.p)) (by exact l1 default)]
 simp only[]
 rw[Tr.rb (v:=(w,default,w.p,w.p.Queue)) (by exact l2 default w.p),Tr.rl]
theorem z73 {w:Wld} {i:Int} (hf:(0≤i∧i < 2)→FitC 140737488351232 (zb w.consumers i)):za0 i w=some (if 0≤i∧i < 2 then zb w.consumers i else default,w):=by
 rw[za0,zfk]
 by_cases hi:0≤i∧i < 2
 ·have hf:=hf hi
  have e1:=zth (l:=w.consumers.Set.get i) (by have:(w.consumers.Set.get i).length*16≤_:=hf.set;omega)
  have e3:=z3k (l:=(zb w.consumers i).Out) (by have:=hf.said;omega) (by have:=hf.due;omega)
  have hr:(w.consumers.Ripes.get i).length*16≤140737488351232:=hf.ripes
  have hp:(w.consumers.Pending.get i).length*80≤140737488351232:=hf.pend
  have l1:∀ z q,zdi (w.consumers.Pending.get i) (w.consumers.Pending.get i).length 0 w z q []=some (w,z,q,w.consumers.Pending.get i):=by
   intro z q
   have hps:∀ p,p∈w.consumers.Pending.get i→p.Set.length*16≤140737488351232∧p.Done.length*8≤140737488351232:=hf.ps
   generalize w.consumers.Pending.get i=l at *
   rw[zdi]
   have:=zl9 (F:=fun s:(List Packet)×Int×Int×Wld×zc×zc×(List Packet)=>(zba s.1 s.2.1 s.2.2.1 s.2.2.2.1 s.2.2.2.2.1 s.2.2.2.2.2.1 s.2.2.2.2.2.2).run) l.length (fun i t=>(l,(l.length:Int),(i:Int),w,z,q,t)) (fun i t=>t=l.take i) (fun _ _=>(w,z,q,l)) ?_ ?_ 0 [] (Nat.zero_le _) rfl
   ·exact this
   ·rintro t rfl
    simp only[zba];rw[Tr.rf (by simp),Tr.rl,List.take_length]
   ·rintro k t hk ht
    obtain ⟨p1,p2⟩:=hps _ (zgj (l:=l) (k:=k) hk default)
    have htl:t.length≤k:=by rw[ht,List.length_take];omega
    refine .inl ⟨t++[l.getD k default],?_,by rw[ht,zj0 hk default],by trivial⟩
    simp only[zba,yy4]
    rw[Tr.rt (by simpa using hk),Tr.rg ⟨by omega,by rw[zfi];omega⟩,Tr.rb (z71 (by omega) (by omega)),Tr.rg (by simp only[zfi,yy5];omega),Tr.rl,zx (by omega)]
  rw[if_pos hi,Tr.rf (by simp;omega),Tr.rg hi,e1,e3,Tr.rg (by rfl),Tr.rg (by rfl),Tr.rg (by rw[zkv];omega)]
  simp only[yy2]
  rw[Tr.rb (v:=(w,default,zb w.consumers i,w.consumers.Pending.get i)) (by exact l1 default _),Tr.rl]
  rfl
 ·rw[if_neg hi,Tr.rt (by simp;omega),Tr.rl]
theorem zadr {w:Wld} (h:OkW w) {i:Int} (hi:0≤i∧i < 2) (b:Bool):(zagy (zda w i b)).size≤71:=by
  have hw:=h.c i hi
  unfold zagy
  split
  · rename_i hg
    have hmem:(zda w i b).Said.getD (zda w i b).Got.toNat .empty∈(zda w i b).Said:=by
      by_cases h0:(zda w i b).Got.toNat < (zda w i b).Said.length
      · exact zgj h0 _
      · exact absurd hg (by
          cases b with
          | true =>
                    have:0≤(zb w.consumers i).Out.Got:=(zb5 hw.good).2.1.2.2.1
                    show ¬ (zb w.consumers i).Out.Got < _
                    have h0':¬ (zb w.consumers i).Out.Got.toNat < (zb w.consumers i).Out.Said.length:=h0
                    show ¬ (zb w.consumers i).Out.Got < (((zb w.consumers i).Out.Said.length:Nat):Int)
                    omega
          | false =>
                     have:0≤(ze w.p.Links i).Out.Got:=(h.p.lk hi).line.2.2.1
                     have h0':¬ (ze w.p.Links i).Out.Got.toNat < (ze w.p.Links i).Out.Said.length:=h0
                     show ¬ (ze w.p.Links i).Out.Got < (((ze w.p.Links i).Out.Said.length:Nat):Int)
                     omega)
    generalize (zda w i b).Said.getD (zda w i b).Got.toNat .empty=s at hmem
    have:∃ q,zct q=0∧s=txt (znm q):=by
      cases b with
      | true=>obtain ⟨q,q1,_,q2⟩:=hw.said s hmem;exact ⟨q,q1,q2⟩
      | false=>obtain ⟨q,q1,_,q2⟩:=hw.told s hmem;exact ⟨q,q1,q2⟩
    obtain ⟨q,q1,rfl⟩:=this
    have:=z1a q1
    rw[zws,zva];omega
  · decide
theorem zag5 {n:Nat} (h:n≤1000):zct (zagx n)=0:=by
 have hw:i64.wrap (1+(n:Int))=1+n:=zk (by omega) (by omega)
 unfold zct zagx
 rw[hw]
 simp only[]
 rw[if_neg (by omega),if_neg (by omega),if_neg (by simp),if_neg (by simp[zw]),if_neg (by simp[zak])]
theorem zaoa {w:Wld} (h:OkW w) {i:Int} (hi:0≤i∧i < 2) (b f:Bool):zl3 (zda w i b) f=some (zi8 (zda w i b) f)∧(zi8 (zda w i b) f).size≤71:=by
 have hz:=zadr h hi b
 have hg0:0≤(zda w i b).Got:=by
  cases b with
  | true=>exact (zb5 (h.c i hi).good).2.1.2.2.1
  | false=>exact (h.p.lk hi).line.2.2.1
 have hE:∀ n:Nat,za7 (⟨3,1,0,i64.wrap (1+(n:Int)),[],[]⟩:Packet)=some (zf9 (zagx n)):=fun n=>z0r (by simp) (by simp)
 generalize zda w i b=l at *
 have hsz:(zi8 l f).size≤71:=by
  unfold zi8
  cases f with
  | true=>rw[if_pos rfl,zkw (zag5 (by omega)),zws,zva];simp[zagx]
  | false=>rw[if_neg (by simp)];exact hz
 refine ⟨?_,hsz⟩
 rw[zl3,zsk]
 unfold zi8
 unfold zagy at hz ⊢
 by_cases hl:l.Got < ((l.Said.length:Nat):Int)
 ·rw[if_pos hl,Tr.rt (by simpa using hl),Tr.rg ⟨hg0,by show l.Got < ((l.Said.length:Nat):Int);exact hl⟩]
  cases f with
  | true=>rw[Tr.rf (by rfl),if_pos rfl,Tr.rb (hE _),Tr.rl]
  | false=>rw[Tr.rt (by rfl),if_neg (by simp),Tr.rl]
 ·rw[if_neg hl,Tr.rf (by simpa using hl)]
  cases f with
  | true=>rw[Tr.rf (by rfl),if_pos rfl,Tr.rb (hE _),Tr.rl]
  | false=>rw[Tr.rt (by rfl),if_neg (by simp),Tr.rl]
theorem zads {w:Wld} (hf:FitPr 140737488351232 w.p):zfm w=some ((zke w).2,(zke w).1):=by
 rw[zfm,zf4,zada hf,Tr.rg (by rfl)]
 simp only[yy2]
 unfold zke
 by_cases h0:(zif w.p w.clock).2.2=0
 ·rw[Tr.rf (by simpa using h0),if_neg (by simpa using h0)]
  have turn:∀ (c:Nat),c < 2→∀ (u:Wld) l z (p:za),(zaw l (c:Int) u z p).run=some (.inl (l,((c+1:Nat):Int),{ u with heads:={ u.heads with PHeight:=u.heads.PHeight.set c p.Height,PTime:=u.heads.PTime.set c p.Time,PSaid:=u.heads.PSaid.set c (((p.Links.Said.get c).length:Nat):Int),PGot:=u.heads.PGot.set c (u.consumers.Got.get c) } },z,p)):=by
   intro c hc u l z p
   simp only[zaw]
   rw[Tr.rt (by simp;omega),Tr.rg ⟨by omega,by omega⟩,Tr.rg ⟨by omega,by omega⟩,Tr.rg ⟨by omega,by omega⟩,Tr.rg ⟨by omega,by omega⟩,Tr.rl,zx (by omega)]
  have loop:∀ l z,zd1 l 0 { w with p:=(zif w.p w.clock).1 } z (zif w.p w.clock).1=some (l,{ w with p:=(zif w.p w.clock).1,heads:=zagw w.heads (zif w.p w.clock).1 w.consumers },z):=by
   intro l z
   generalize (zif w.p w.clock).1=p
   rw[zd1,zc5 (turn 0 (by omega) _ _ _ _),zc5 (turn 1 (by omega) _ _ _ _),zff (by
    show (zaw _ 2 _ _ _).run=_
    simp only[zaw]
    rw[Tr.rf (by simp),Tr.rl])]
   rfl
  rw[Tr.rb (v:=((zif w.p w.clock).2.1,{ w with p:=(zif w.p w.clock).1,heads:=zagw w.heads (zif w.p w.clock).1 w.consumers },⟨0,0⟩)) (by exact loop _ _),Tr.rl]
 ·rw[Tr.rt (by simpa using h0),if_pos h0,Tr.rl];rfl
theorem z95 {C:zb7} {i:Int} (hi:0≤i∧i < 2) (l:zid):({ C with Said:=C.Said.set i l.Said,Due:=C.Due.set i l.Due,Got:=C.Got.set i l.Got,Closed:=C.Closed.set i l.Closed }:zb7)=zk0 C i { zb C i with Out:=l }:=by
 unfold zk0 zb
 simp only[zni _ hi]
theorem zadt {w:Wld} (h:OkW w) {d:Deed} (hi:0≤d.C∧d.C < 2):zfn d w=some ((zoa w d).2,(zoa w d).1):=by
 rw[zfn,zf5,Tr.rg hi,Tr.rg hi]
 obtain ⟨t1,t2⟩:=zaoa h hi d.Back d.Forged
 unfold zoa zlg
 cases hb:d.Back with
 | true =>
  rw[hb] at t1 t2
  have e0:(zb w.consumers d.C).Out=zda w d.C true:=rfl
  have e1:w.consumers.Got.get d.C=(zda w d.C true).Got:=rfl
  rw[Tr.rt rfl,e0,Tr.rb t1,e1,z2z,Tr.rg (by rfl)]
  simp only[yy2]
  have es:z5m w d.C true=w.p.Links.SSaid.get d.C:=rfl
  rw[← es]
  by_cases h0:(zl4 (zda w d.C true) (i64.wrap ((zda w d.C true).Got+1)) (zi8 (zda w d.C true) d.Forged) (z5m w d.C true) w.clock).2=0
  ·rw[Tr.rf (by simpa using h0),if_neg (by simpa using h0),Tr.rt rfl,if_pos trivial,z9w h.fit (by omega),Tr.rg (by rfl)]
   simp only[yy2]
   by_cases h1:(zln w.p d.C (zi8 (zda w d.C true) d.Forged).data.toList).2=0
   ·rw[Tr.rf (by simpa using h1),if_neg (by simpa using h1),Tr.rl,z95 hi]
   ·rw[Tr.rt (by simpa using h1),if_pos h1,Tr.rl];rfl
  ·rw[Tr.rt (by simpa using h0),if_pos h0,Tr.rl];rfl
 | false =>
  rw[hb] at t1 t2
  have e0:(ze w.p.Links d.C).Out=zda w d.C false:=rfl
  have e1:w.p.Links.Got.get d.C=(zda w d.C false).Got:=rfl
  rw[Tr.rf rfl,e0,Tr.rb t1,e1,z2z,Tr.rg (by rfl)]
  simp only[yy2]
  have es:z5m w d.C false=w.consumers.SSaid.get d.C:=rfl
  rw[← es]
  by_cases h0:(zl4 (zda w d.C false) (i64.wrap ((zda w d.C false).Got+1)) (zi8 (zda w d.C false) d.Forged) (z5m w d.C false) w.clock).2=0
  ·rw[Tr.rf (by simpa using h0),if_neg (by simpa using h0),Tr.rf rfl,if_neg (by simp),Tr.rb (zanz ((h.c d.C hi).fit h.d1) (by omega))]
   by_cases h1:(zsv (zb w.consumers d.C) (zi8 (zda w d.C false) d.Forged).data.toList).2=0
   ·rw[Tr.rf (by simpa using h1),if_neg (by simpa using h1),Tr.rl];rfl
   ·rw[Tr.rt (by simpa using h1),if_pos h1,Tr.rl];rfl
  ·rw[Tr.rt (by simpa using h0),if_pos h0,Tr.rl];rfl
theorem zag6 {w:Wld} (h:OkW w) {d:Deed} (hi:0≤d.C∧d.C < 2):zf6 d w=some ((zsy w d).2,(zsy w d).1):=by
 rw[zf6,zgu,Tr.rg hi,Tr.rg hi]
 have hr:=z5k h.fit (c:=d.C)
 unfold zsy z5n
 cases hb:d.Back with
 | true =>
  rw[Tr.rt rfl,if_pos rfl,Tr.rb (z60 _ _ _ _)]
  by_cases h0:(zxl (zb w.consumers d.C).Out d.N (w.consumers.STime.get d.C) (w.consumers.SGot.get d.C)).2=0
  ·rw[Tr.rf (by simpa using h0),if_neg (by simpa using h0),hr,Tr.rg (by rfl),Tr.rb z7i,Tr.rl];rfl
  ·rw[Tr.rt (by simpa using h0),if_pos h0,Tr.rl];rfl
 | false =>
  rw[Tr.rf rfl,if_neg (show ¬ (false=true) by simp),Tr.rb (z60 _ _ _ _)]
  by_cases h0:(zxl (ze w.p.Links d.C).Out d.N (w.p.Links.STime.get d.C) (w.p.Links.SGot.get d.C)).2=0
  ·rw[Tr.rf (by simpa using h0),if_neg (by simpa using h0),hr,Tr.rg (by rfl),Tr.rb z7i,Tr.rl];rfl
  ·rw[Tr.rt (by simpa using h0),if_pos h0,Tr.rl];rfl
theorem zadu {w:Wld} (h:OkW w) {d:Deed}:zfo d w=some ((zob w d).2,(zob w d).1):=by
 rw[zfo,zf7]
 unfold zob
 by_cases c1:d.Kind < 4∨12 < d.Kind
 ·rw[if_pos c1,Tr.rt (by simpa using c1),Tr.rl];rfl
 rw[if_neg c1,Tr.rf (by simp;omega)]
 by_cases c2:d.C < 0∨2≤d.C
 ·rw[if_pos c2,Tr.rt (by simpa using c2),Tr.rl];rfl
 have hi:0≤d.C∧d.C < 2:=by omega
 have hw:=h.c d.C hi
 have hfc:=hw.fit h.d1
 rw[if_neg c2,Tr.rf (by simp;omega),Tr.rg hi]
 by_cases c3:d.Kind≠4∧w.consumers.On.get d.C=false
 ·rw[if_pos c3,Tr.rt (by simpa using c3),Tr.rl];rfl
 rw[if_neg c3,Tr.rf (by
  rw[Bool.eq_false_iff];intro k;apply c3;simpa using k)]
 by_cases c4:d.Kind=4
 ·rw[if_pos c4,Tr.rt (by simpa using c4),z7q h.fit,Tr.rg (by rfl)]
  simp only[yy2]
  unfold zyh
  by_cases h0:(zdj w.p d.C).2=0
  ·obtain ⟨f1,_,f3,f4,f5,f6,f7⟩:=zvf h0
   have hs:(zdj w.p d.C).1.Set.length*16≤140737488355328:=by rw[f7];have:=h.fit.set;show w.p.Set.length*16≤_;omega
   rw[Tr.rf (by simpa using h0),if_neg (by simpa using h0),zajl hs,Tr.rg (by rfl),Tr.rg hi,Tr.rl]
   rfl
  ·rw[Tr.rt (by simpa using h0),if_pos h0,Tr.rl];rfl
 rw[if_neg c4,Tr.rf (by simpa using c4)]
 have hsz:=hw.size;have hd1:=h.d1
 by_cases c7:d.Kind=7
 ·have he:zv (zb w.consumers d.C) w.clock=some (z3a w.clock (zb w.consumers d.C)):=zasa hfc (by omega)
  rw[if_pos c7,Tr.rt (by simpa using c7),he,Tr.rg (by rfl)]
  simp only[yy2]
  unfold ztf
  by_cases h0:(z3a w.clock (zb w.consumers d.C)).2=0
  ·rw[Tr.rt (by simpa using h0),Tr.rg hi,Tr.rg hi,Tr.rg (by omega),Tr.rf (by simpa using h0),if_neg (by simpa using h0),Tr.rl];rfl
  ·rw[Tr.rf (by simpa using h0),Tr.rt (by simpa using h0),if_pos h0,Tr.rl];rfl
 rw[if_neg c7,Tr.rf (by simpa using c7)]
 by_cases c8:d.Kind=8
 ·rw[if_pos c8,Tr.rt (by simpa using c8)]
  unfold z3h
  cases hb:d.Back with
  | true =>
   rw[Tr.rt rfl,if_pos rfl,Tr.rg hi,Tr.rg (by omega),Tr.rg hi,Tr.rf rfl,Tr.rl,z7w hi];rfl
  | false =>
   rw[Tr.rf rfl,if_neg (show ¬ (false=true) by simp),Tr.rg hi,Tr.rg (by omega),Tr.rf rfl,Tr.rl];rfl
 rw[if_neg c8,Tr.rf (by simpa using c8)]
 by_cases c9:d.Kind=9
 ·rw[if_pos c9,Tr.rt (by simpa using c9),Tr.rb (zadt h hi),Tr.rl]
 rw[if_neg c9,Tr.rf (by simpa using c9)]
 by_cases c10:d.Kind=10
 ·rw[if_pos c10,Tr.rt (by simpa using c10),Tr.rb (zag6 h hi),Tr.rl]
 rw[if_neg c10,Tr.rf (by simpa using c10)]
 by_cases c11:d.Kind=11
 ·rw[if_pos c11,Tr.rt (by simpa using c11),zan0 hfc,Tr.rg (by rfl)]
  simp only[yy2]
  unfold putW
  by_cases h0:(z04 (zb w.consumers d.C) d.V w.clock).2=0
  ·rw[Tr.rf (by simpa using h0),if_neg (by simpa using h0),Tr.rl]
  ·rw[Tr.rt (by simpa using h0),if_pos h0,Tr.rl];rfl
 rw[if_neg c11,Tr.rf (by simpa using c11)]
 by_cases c12:d.Kind=12
 ·rw[if_pos c12,Tr.rt (by simpa using c12),zagc hfc,Tr.rg (by rfl)]
  simp only[yy2]
  unfold putW
  by_cases h0:(zo4 (zb w.consumers d.C) d.V d.N w.clock).2=0
  ·rw[Tr.rf (by simpa using h0),if_neg (by simpa using h0),Tr.rl]
  ·rw[Tr.rt (by simpa using h0),if_pos h0,Tr.rl];rfl
 rw[if_neg c12,Tr.rf (by simpa using c12),Tr.rf rfl,Tr.rl,z7w hi]
theorem zag7 {w:Wld} (h:OkW w) {d:Deed} (hn:d.N≤9223372036854775807):zb3 d w=some ((doW w d).2,(doW w d).1):=by
 rw[zb3,zld]
 unfold doW
 by_cases c0:600≤w.deeds
 ·rw[if_pos c0,Tr.rt (by simpa using c0),Tr.rl];rfl
 have hd:w.deeds < 600:=by omega
 have hd0:=h.d0
 have hw:i64.wrap (w.deeds+1)=w.deeds+1:=zk (by omega) (by omega)
 have hm:=zi9 h hd
 rw[if_neg c0,Tr.rf (by simpa using c0),hw]
 have e0:({ w with deeds:=w.deeds+1 }:Wld)=zat w:=rfl
 unfold actW
 by_cases c1:d.Kind=1
 ·rw[if_pos c1,Tr.rt (by simpa using c1),Tr.rb (z06 h.fit hn)]
  unfold zo5
  by_cases h0:(zcn w.p d.D d.V d.N).2=0
  ·rw[Tr.rf (by simpa using h0),if_neg (by show ¬ (zcn w.p d.D d.V d.N).2≠0;simpa using h0),Tr.rl];rfl
  ·rw[Tr.rt (by simpa using h0),if_pos (by exact h0),Tr.rl];rfl
 rw[if_neg c1,Tr.rf (by simpa using c1)]
 by_cases c2:d.Kind=2
 ·rw[if_pos c2,Tr.rt (by simpa using c2),zxs h.fit hn,Tr.rg (by rfl)]
  simp only[yy2]
  unfold zo5
  by_cases h0:(zcg w.p d.D d.V d.N w.clock).2=0
  ·rw[Tr.rf (by simpa using h0),if_neg (by show ¬ (zcg w.p d.D d.V d.N w.clock).2≠0;simpa using h0),Tr.rl];rfl
  ·rw[Tr.rt (by simpa using h0),if_pos (by exact h0),Tr.rl];rfl
 rw[if_neg c2,Tr.rf (by simpa using c2)]
 by_cases c3:d.Kind=3
 ·rw[if_pos c3,Tr.rt (by simpa using c3),Tr.rb zafy]
  unfold zo5
  by_cases h0:(zb0 w.p.Stake d.V 1).2=0
  ·rw[Tr.rf (by simpa using h0),if_neg (by show ¬ (zb0 w.p.Stake d.V 1).2≠0;simpa using h0),Tr.rl];rfl
  ·rw[Tr.rt (by simpa using h0),if_pos (by exact h0),Tr.rl];rfl
 rw[if_neg c3,Tr.rf (by simpa using c3)]
 by_cases c13:d.Kind=13
 ·rw[if_pos c13,Tr.rt (by simpa using c13),Tr.rb (z09 h.fit)]
  unfold zo5
  by_cases h0:(zsx w.p d.V d.N).2=0
  ·rw[Tr.rf (by simpa using h0),if_neg (by show ¬ (zsx w.p d.V d.N).2≠0;simpa using h0),Tr.rl];rfl
  ·rw[Tr.rt (by simpa using h0),if_pos (by exact h0),Tr.rl];rfl
 rw[if_neg c13,Tr.rf (by simpa using c13)]
 by_cases c5:d.Kind=5
 ·rw[if_pos c5,Tr.rt (by simpa using c5)]
  have t0:=h.t0;have t1:=h.t1
  have h1:i64.wrap (1099511627736 - w.clock)=1099511627736 - w.clock:=zk (by omega) (by omega)
  rw[h1]
  unfold zadi
  by_cases h0:d.N < 1∨1099511627736 - w.clock < d.N
  ·rw[Tr.rt (by simpa using h0),if_pos (by exact h0),Tr.rl];rfl
  ·have h2:i64.wrap (w.clock+d.N)=w.clock+d.N:=zk (by omega) (by omega)
   rw[Tr.rf (by simp;omega),if_neg (by exact h0),Tr.rl,h2];rfl
 rw[if_neg c5,Tr.rf (by simpa using c5)]
 by_cases c6:d.Kind=6
 ·rw[if_pos c6,Tr.rt (by simpa using c6),e0,Tr.rb (zads hm.fit),Tr.rl]
 rw[if_neg c6,Tr.rf (by simpa using c6),e0,Tr.rb (zadu hm),Tr.rl]
def stk7:Stake:=⟨⟨⟨99300,100000,100000,100000⟩,700,0,0⟩,{ zar7 with Tokens:=⟨700,0,0,0,0,0⟩,Shares:=⟨700,0,0,0,0,0⟩ },⟨⟨700,0,0,0,0,0⟩,⟨0,0,0,0,0,0⟩,⟨0,0,0,0,0,0⟩,⟨0,0,0,0,0,0⟩⟩,[],1⟩
theorem zag8:GoodS stk7:=by decide
theorem z74:zbo newS 0 0 700=(stk7,0):=by
 have h:zet newS 0 0=0:=by
  unfold zet
  rw[if_neg (by simpa using zaf5),if_neg (by omega)]
 unfold zbo
 rw[if_neg (by simpa using h),if_neg (by decide),if_neg (by omega),if_neg (by decide),if_neg (by decide),if_neg (by decide),if_neg (by decide)]
 rfl
theorem zag9:setS stk7=[⟨0,7⟩]:=by rfl
def p7:za:={ z7l with Stake:=stk7 }
def p8:za:=⟨1,5,stk7,[⟨0,7⟩],default,zac7 (newM 0 0) (allP []) 5,[]⟩
theorem zaob:zal p7=true:=by decide
theorem zaoc:zal p8=true:=by decide
theorem z96:zcn z7l 0 0 700=(p7,0):=by
 unfold zcn
 rw[if_pos z3e]
 show (if (zbo newS 0 0 700).2≠0 then _ else (({ z7l with Stake:=(zbo newS 0 0 700).1 }:za),(0:Int)))=_
 rw[z74];rfl
theorem zasj:zif p7 5=(p8,[],0):=by
 have hpay:z24 stk7 5=(stk7,[],0):=by unfold z24;rw[if_neg (by simpa using zag8)];rfl
 unfold zif
 rw[if_pos ⟨zaob,by decide,by decide⟩]
 have hp:zl6 p7 5=p8:=by
  unfold zl6
  show ({ zt9 p7 5 with Stake:=(z24 stk7 5).1,Set:=setS (z24 stk7 5).1,Queue:=[] }:za)=_
  rw[hpay,zag9];rfl
 rw[hp,zabt (p:=p8) (c:=0) rfl,zabt (p:=p8) (c:=1) rfl]
 show (p8,(z24 stk7 5).2.1,(0:Int))=_
 rw[hpay]
def w1:Wld:=⟨0,p7,default,default,1⟩
def w2:Wld:=⟨5,p7,default,default,2⟩
def w3:Wld:=⟨5,p8,default,zagw default p8 default,3⟩
theorem do_1:doW newW ⟨1,0,0,0,700,false,false⟩=(w1,⟨0,0⟩):=by
 show zo5 (zat newW) (zcn z7l 0 0 700)=_
 rw[z96];rfl
theorem do_2:doW w1 ⟨5,0,0,0,5,false,false⟩=(w2,⟨0,5⟩):=by rfl
theorem do_3:doW w2 ⟨6,0,0,0,0,false,false⟩=(w3,⟨0,0⟩):=by
 show zke (zat w2)=_
 unfold zke
 have e:zif (zat w2).p (zat w2).clock=(p8,[],0):=zasj
 rw[e];rfl
theorem do_4:(doW w3 ⟨4,0,0,0,0,false,false⟩).2.N=1∧(doW w3 ⟨4,0,0,0,0,false,false⟩).1.clock=5∧(zb (doW w3 ⟨4,0,0,0,0,false,false⟩).1.consumers 0).Set=[⟨0,7⟩]:=by
 have hb:zdj p8 0=(zlo p8 0 (p8.Stake.Waits.map (zhf 0 p8.Height)) (ztp p8),0):=by
  unfold zdj
  rw[if_neg (by rw[zaoc];simp),if_pos (by omega),if_neg (by decide),if_neg (by decide),if_neg (by decide)]
 have e:doW w3 ⟨4,0,0,0,0,false,false⟩=zyh (zat w3) 0:=rfl
 rw[e]
 unfold zyh
 have e2:zdj (zat w3).p 0=(zlo p8 0 (p8.Stake.Waits.map (zhf 0 p8.Height)) (ztp p8),0):=hb
 rw[e2]
 exact ⟨rfl,rfl,rfl⟩
theorem okW1:OkW w1:=by have:=z70 z9z ⟨1,0,0,0,700,false,false⟩;rw[do_1] at this;exact this
theorem okW2:OkW w2:=by have:=z70 okW1 ⟨5,0,0,0,5,false,false⟩;rw[do_2] at this;exact this
theorem okW3:OkW w3:=by have:=z70 okW2 ⟨6,0,0,0,0,false,false⟩;rw[do_3] at this;exact this
theorem okW4:OkW (doW w3 ⟨4,0,0,0,0,false,false⟩).1:=z70 okW3 _
structure Alike (w w':Wld):Prop where
 p:w'.p=w.p
 c:w'.consumers=w.consumers
 t:w'.clock=w.clock
theorem Alike.refl (w:Wld):Alike w w:=⟨rfl,rfl,rfl⟩
theorem Alike.more (w:Wld):Alike w (zat w):=⟨rfl,rfl,rfl⟩
def zaha (w:Wld) (s:Stake):Wld:={ zat w with p:={ w.p with Stake:=s } }
def zask (w:Wld) (s:Stake):Wld:={ zat w with p:={ w.p with Stake:=s,Links:=z7m w.p.Links } }
def zaya (w:Wld) (n:Int):Wld:={ zat w with clock:=w.clock+n }
def z75 (w:Wld):Wld:={ zat w with p:=(zif w.p w.clock).1,heads:=zagw w.heads (zif w.p w.clock).1 w.consumers }
def zahb (w:Wld) (i:Int):Wld:={ zat w with p:=zlo w.p i (w.p.Stake.Waits.map (zhf i w.p.Height)) (ztp w.p),consumers:=zk0 w.consumers i (zn7 w.p.Set w.p.Height w.clock),heads:=zak7 w.heads i }
def zadv (w:Wld) (i:Int) (c:zc):Wld:={ zat w with consumers:=zk0 w.consumers i c }
def zasl (w:Wld) (i:Int):Wld:={ zat w with p:={ w.p with Links:=zxu w.p.Links i (zan6 w.heads i) } }
def zq5 (w:Wld) (i:Int):Wld:={ zadv w i (z3a w.clock (zb w.consumers i)).1 with heads:=zasg w.heads i (z3a w.clock (zb w.consumers i)).1 (w.p.Links.Got.get i) }
def gotB (w:Wld) (i:Int) (q:Packet):Wld:={ zadv w i { zb w.consumers i with Out:={ (zb w.consumers i).Out with Got:=(zb w.consumers i).Out.Got+1 } } with p:={ w.p with Queue:=w.p.Queue++[⟨i,q⟩] } }
def gotF (w:Wld) (i:Int) (q:Packet):Wld:={ zadv w i { zb w.consumers i with Pending:=(zb w.consumers i).Pending++[q] } with p:={ w.p with Links:=zyg w.p.Links i { (ze w.p.Links i).Out with Got:=(ze w.p.Links i).Out.Got+1 } } }
def zaj5 (w:Wld) (i:Int):Wld:={ zadv w i { zb w.consumers i with On:=false,Gone:=true,Out:={ (zb w.consumers i).Out with Closed:=true } } with p:=zq3 w.p i }
def zayb (w:Wld) (i:Int) (q:Packet) (f:A6 Bool):zc:={ zb w.consumers i with Out:={ (zb w.consumers i).Out with Said:=(zb w.consumers i).Out.Said++[txt (znm q)],Due:=(zb w.consumers i).Out.Due++[w.clock+40] },Flags:=f }
structure zaod (w:Wld) (i:Int) (b:Bool) (q:Packet):Prop where
 good:zds (zda w i b)
 opened:(zda w i b).Closed=false
 got:(zda w i b).Got.toNat < (zda w i b).Said.length
 seen:(zda w i b).Got+1≤z5m w i b
 text:(zda w i b).Said.getD (zda w i b).Got.toNat .empty=txt (znm q)
 time:w.clock < (zda w i b).Due.getD (zda w i b).Got.toNat 0
 pk:zct q=0
theorem z5q {w:Wld} (h:OkW w) (hd:w.deeds < 600) (d:Deed) {P:Wld→Reply→Prop}
  (hno:∀ w' r,Alike w w'→r.Code≠0→P w' r)
  (hdel:d.Kind=1→(zbo w.p.Stake d.D d.V d.N).2=0→P (zaha w (zbo w.p.Stake d.D d.V d.N).1) ⟨0,0⟩)
  (hund:d.Kind=2→(za3 w.p.Stake d.D d.V d.N (z07 w.p w.clock)).2=0→P (zask w (za3 w.p.Stake d.D d.V d.N (z07 w.p w.clock)).1) ⟨0,0⟩)
  (hunj:d.Kind=3→(zb0 w.p.Stake d.V 1).2=0→P (zaha w (zb0 w.p.Stake d.V 1).1) ⟨0,0⟩)
  (hevi:d.Kind=13→(0≤d.V∧d.V < 6)→(1≤d.N∧d.N≤w.p.Height)→w.p.Stake.Validators.Dead.get d.V=false→P (zaha w (zb0 (zgn w.p.Stake d.V d.N 50).1 d.V 2).1) ⟨0,0⟩)
  (htick:d.Kind=5→1≤d.N→d.N≤1099511627736 - w.clock→P (zaya w d.N) ⟨0,w.clock+d.N⟩)
  (hprov:d.Kind=6→P (z75 w) ⟨0,(((zif w.p w.clock).2.1.length:Nat):Int)⟩)
  (hbeg:d.Kind=4→(0≤d.C∧d.C < 2)→w.p.Links.Gone.get d.C=false→w.p.Links.On.get d.C=false→1≤w.p.Height→w.p.Set.length≠0→P (zahb w d.C) ⟨0,w.p.Height⟩)
  (hcons:d.Kind=7→(0≤d.C∧d.C < 2)→(zb w.consumers d.C).On=true→P (zq5 w d.C) ⟨0,0⟩)
  (hseen:d.Kind=8→(0≤d.C∧d.C < 2)→(zb w.consumers d.C).On=true→d.Back=true→P (zasl w d.C) ⟨0,0⟩)
  (hsee:d.Kind=8→(0≤d.C∧d.C < 2)→(zb w.consumers d.C).On=true→d.Back=false→P (zadv w d.C { zb w.consumers d.C with Seen:=zash w.heads d.C }) ⟨0,0⟩)
  (hback:∀ q,d.Kind=9→(0≤d.C∧d.C < 2)→(zb w.consumers d.C).On=true→d.Back=true→zaod w d.C true q→q.Kind≠1→P (gotB w d.C q) ⟨0,(zb w.consumers d.C).Out.Got+1⟩)
  (hforth:∀ q,d.Kind=9→(0≤d.C∧d.C < 2)→(zb w.consumers d.C).On=true→d.Back=false→zaod w d.C false q→q.Kind=1→P (gotF w d.C q) ⟨0,(ze w.p.Links d.C).Out.Got+1⟩)
  (hlate:d.Kind=10→(0≤d.C∧d.C < 2)→(zb w.consumers d.C).On=true→(z5n w d).2=0→P (zaj5 w d.C) ⟨0,0⟩)
  (hsay:∀ q f,(d.Kind=11∨d.Kind=12)→(0≤d.C∧d.C < 2)→(zb w.consumers d.C).On=true→zct q=0→(q.Kind=3∧q.Id=(zb w.consumers d.C).Id∨q.Kind=4∧q.Id≤(zb w.consumers d.C).Id)→(zb w.consumers d.C).Out.Closed=false→(zb w.consumers d.C).Out.Said.length < 400→P (zadv w d.C (zayb w d.C q f)) ⟨0,0⟩) :
  P (doW w d).1 (doW w d).2:=by
 have hm:=zi9 h hd
 have no:∀ e:Int,e≠0→P (noW (zat w) e).1 (noW (zat w) e).2:=fun e he=>hno _ _ (.more w) he
 unfold doW
 rw[if_neg (by omega)]
 unfold actW
 by_cases c1:d.Kind=1
 ·rw[if_pos c1]
  unfold zo5
  have e:zcn (zat w).p d.D d.V d.N=zcn w.p d.D d.V d.N:=rfl
  by_cases h0:(zcn w.p d.D d.V d.N).2=0
  ·rw[e,if_neg (by simpa using h0)]
   unfold zcn at h0 ⊢
   rw[if_pos h.pr] at h0 ⊢
   by_cases h1:(zbo w.p.Stake d.D d.V d.N).2=0
   ·rw[if_neg (by simpa using h1)];exact hdel c1 h1
   ·rw[if_pos h1] at h0;exact absurd h0 h1
  ·rw[e,if_pos h0];exact no _ h0
 rw[if_neg c1]
 by_cases c2:d.Kind=2
 ·rw[if_pos c2]
  unfold zo5
  have e:zcg (zat w).p d.D d.V d.N (zat w).clock=zcg w.p d.D d.V d.N w.clock:=rfl
  by_cases h0:(zcg w.p d.D d.V d.N w.clock).2=0
  ·rw[e,if_neg (by simpa using h0)]
   unfold zcg at h0 ⊢
   have ht:zal w.p=true∧0≤w.clock∧w.clock≤1099511627776:=⟨h.pr,h.t0,by have:=h.t1;omega⟩
   rw[if_pos ht] at h0 ⊢
   by_cases h1:(za3 w.p.Stake d.D d.V d.N (z07 w.p w.clock)).2=0
   ·rw[if_neg (by simpa using h1)];exact hund c2 h1
   ·rw[if_pos h1] at h0;exact absurd h0 h1
  ·rw[e,if_pos h0];exact no _ h0
 rw[if_neg c2]
 by_cases c3:d.Kind=3
 ·rw[if_pos c3]
  unfold zo5
  by_cases h0:(zb0 w.p.Stake d.V 1).2=0
  ·rw[if_neg (by show ¬ (zb0 w.p.Stake d.V 1).2≠0;simpa using h0)];exact hunj c3 h0
  ·rw[if_pos (by exact h0)];exact no _ h0
 rw[if_neg c3]
 by_cases c13:d.Kind=13
 ·rw[if_pos c13]
  unfold zo5
  have e:zsx (zat w).p d.V d.N=zsx w.p d.V d.N:=rfl
  by_cases h0:(zsx w.p d.V d.N).2=0
  ·rw[e,if_neg (by simpa using h0)]
   unfold zsx at h0 ⊢
   rw[if_neg (by rw[h.pr];simp)] at h0 ⊢
   by_cases h1:0≤d.V∧d.V < 6
   ·rw[if_pos h1] at h0 ⊢
    by_cases h2:1≤d.N∧d.N≤w.p.Height
    ·rw[if_pos h2] at h0 ⊢
     by_cases h3:w.p.Stake.Validators.Dead.get d.V=true
     ·rw[if_pos h3] at h0;cases h0
     ·rw[if_neg h3];exact hevi c13 h1 h2 (Bool.eq_false_iff.2 h3)
    ·rw[if_neg h2] at h0;cases h0
   ·rw[if_neg h1] at h0;cases h0
  ·rw[e,if_pos h0];exact no _ h0
 rw[if_neg c13]
 by_cases c5:d.Kind=5
 ·rw[if_pos c5]
  unfold zadi
  by_cases h0:d.N < 1∨1099511627736 - w.clock < d.N
  ·rw[if_pos (by exact h0)];exact no _ (by omega)
  ·rw[if_neg (by exact h0)];exact htick c5 (by omega) (by omega)
 rw[if_neg c5]
 by_cases c6:d.Kind=6
 ·rw[if_pos c6]
  have ht:zal w.p=true∧w.p.Time≤w.clock∧w.clock≤1099511627776:=⟨h.pr,h.pt,by have:=h.t1;omega⟩
  unfold zke
  rw[if_neg (by show ¬ (zif w.p w.clock).2.2≠0;rw[zagu ht];simp)]
  exact hprov c6
 rw[if_neg c6]
 unfold zob
 by_cases b1:d.Kind < 4∨12 < d.Kind
 ·rw[if_pos b1];exact no _ (by omega)
 rw[if_neg b1]
 by_cases b2:d.C < 0∨2≤d.C
 ·rw[if_pos b2];exact no _ (by omega)
 rw[if_neg b2]
 have hi:0≤d.C∧d.C < 2:=by omega
 by_cases b3:d.Kind≠4∧(zat w).consumers.On.get d.C=false
 ·rw[if_pos b3];exact no _ (by omega)
 rw[if_neg b3]
 by_cases b4:d.Kind=4
 ·rw[if_pos b4]
  unfold zyh
  have e:zdj (zat w).p d.C=zdj w.p d.C:=rfl
  rw[e]
  by_cases h0:(zdj w.p d.C).2=0
  ·obtain ⟨f1,_,f3,f4,f5,f6,f7⟩:=zvf h0
   rw[if_neg (by simpa using h0),f7]
   exact hbeg b4 hi f3 f4 f5 f6
  ·rw[if_pos h0];exact no _ h0
 rw[if_neg b4]
 have ho:(zb w.consumers d.C).On=true:=by
  cases e:(zb w.consumers d.C).On with
  | true=>rfl
  | false=>exact absurd ⟨b4,e⟩ b3
 have hw:=h.c d.C hi
 have hh:=hw.height
 by_cases b7:d.Kind=7
 ·rw[if_pos b7]
  obtain ⟨e0,-⟩:=ztg (now:=w.clock) hw.good ho ⟨hw.time,by have:=h.t1;omega⟩ (by omega)
  unfold ztf
  rw[if_neg (by show ¬ (z3a w.clock (zb w.consumers d.C)).2≠0;rw[e0];simp)]
  exact hcons b7 hi ho
 rw[if_neg b7]
 by_cases b8:d.Kind=8
 ·rw[if_pos b8]
  unfold z3h
  cases hb:d.Back with
  | true=>rw[if_pos rfl];exact hseen b8 hi ho hb
  | false=>rw[if_neg (by simp)];exact hsee b8 hi ho hb
 rw[if_neg b8]
 by_cases b9:d.Kind=9
 ·rw[if_pos b9]
  unfold zoa
  have e1:zlg (zat w) d=zlg w d:=rfl
  rw[e1]
  by_cases h0:(zlg w d).2=0
  ·obtain ⟨f1,f2,f3,f4,f5,f6,f7,f8⟩:=z3j h0
   rw[if_neg (by simpa using h0)]
   have hg0:0≤(zda w d.C d.Back).Got:=f1.2.2.1
   have hmem:∃ q,zct q=0∧(zda w d.C d.Back).Said.getD (zda w d.C d.Back).Got.toNat .empty=txt (znm q):=by
    have hm:=zgj (l:=(zda w d.C d.Back).Said) (k:=(zda w d.C d.Back).Got.toNat) (by omega) .empty
    generalize (zda w d.C d.Back).Said.getD (zda w d.C d.Back).Got.toNat .empty=s at hm
    cases hb:d.Back with
    | true=>rw[hb] at hm;obtain ⟨q,q1,_,q2⟩:=hw.said s hm;exact ⟨q,q1,q2⟩
    | false=>rw[hb] at hm;obtain ⟨q,q1,_,q2⟩:=hw.told s hm;exact ⟨q,q1,q2⟩
   obtain ⟨q,q1,q2⟩:=hmem
   have ht:(zi8 (zda w d.C d.Back) d.Forged).data.toList=znm q:=by rw[f5,q2,zxm]
   have hcm:zaod w d.C d.Back q:=⟨f1,f2,by omega,f4,q2,f6,q1⟩
   cases hb:d.Back with
   | true =>
    rw[hb] at ht hcm f7
    rw[if_pos rfl]
    have e2:zln (zat w).p d.C (zi8 (zda (zat w) d.C true) d.Forged).data.toList=zln w.p d.C (znm q):=by rw[← ht];rfl
    rw[e2]
    by_cases h1:(zln w.p d.C (znm q)).2=0
    ·obtain ⟨_,_,_,q4,_,q6,_⟩:=zyi h.pr h1
     rw[z4y q1] at q4 q6
     rw[if_neg (by simpa using h1),q6,f7]
     exact hback q b9 hi ho hb hcm q4
    ·rw[if_pos h1];exact no _ h1
   | false =>
    rw[hb] at ht hcm f7
    rw[if_neg (show ¬ (false=true) by simp)]
    have e2:zsv (zb (zat w).consumers d.C) (zi8 (zda (zat w) d.C false) d.Forged).data.toList=zsv (zb w.consumers d.C) (znm q):=by rw[← ht];rfl
    rw[e2]
    by_cases h1:(zsv (zb w.consumers d.C) (znm q)).2=0
    ·obtain ⟨_,_,q4,_,q6,_⟩:=z1i hw.good h1
     rw[z4y q1] at q4 q6
     rw[if_neg (by simpa using h1),q6,f7]
     exact hforth q b9 hi ho hb hcm q4
    ·rw[if_pos h1];exact no _ h1
  ·rw[if_pos h0];exact no _ h0
 rw[if_neg b9]
 by_cases b10:d.Kind=10
 ·rw[if_pos b10]
  unfold zsy
  have e1:z5n (zat w) d=z5n w d:=rfl
  rw[e1]
  by_cases h0:(z5n w d).2=0
  ·obtain ⟨f1,f2⟩:=z7z h hi ho
   have e2:zq4 (zat w).p d.C=zq3 w.p d.C:=f1
   have e3:zvc (zb (zat w).consumers d.C)={ zb w.consumers d.C with On:=false,Gone:=true,Out:={ (zb w.consumers d.C).Out with Closed:=true } }:=f2
   rw[if_neg (by simpa using h0),e2,e3]
   exact hlate b10 hi ho h0
  ·rw[if_pos h0];exact no _ h0
 rw[if_neg b10]
 have hw40:i64.wrap (w.clock+40)=w.clock+40:=zk (by have:=h.t0;omega) (by have:=h.t1;omega)
 by_cases b11:d.Kind=11
 ·rw[if_pos b11]
  unfold putW
  have e1:z04 (zb (zat w).consumers d.C) d.V (zat w).clock=z04 (zb w.consumers d.C) d.V w.clock:=rfl
  rw[e1]
  by_cases h0:(z04 (zb w.consumers d.C) d.V w.clock).2=0
  ·obtain ⟨_,_,_,_,_,_,_,hs,he⟩:=zabj h0
   obtain ⟨s1,s2,s3,s4,s5,s6⟩:=z1h hw.good (by simp) hs
   rw[if_neg (by simpa using h0),he,s5,hw40]
   exact hsay _ _ (.inl b11) hi ho s1 (.inl ⟨rfl,rfl⟩) s3 s4
  ·rw[if_pos h0];exact no _ h0
 rw[if_neg b11]
 by_cases b12:d.Kind=12
 ·rw[if_pos b12]
  unfold putW
  have e1:zo4 (zb (zat w).consumers d.C) d.V d.N (zat w).clock=zo4 (zb w.consumers d.C) d.V d.N w.clock:=rfl
  rw[e1]
  by_cases h0:(zo4 (zb w.consumers d.C) d.V d.N w.clock).2=0
  ·rw[if_neg (by simpa using h0)]
   unfold zo4 at h0 ⊢
   by_cases h1:zie (zb w.consumers d.C)=false∨w.clock < 0∨1099511627776 < w.clock
   ·rw[if_pos h1] at h0;cases h0
   rw[if_neg h1] at h0 ⊢
   by_cases h2:(zb w.consumers d.C).On=false∨d.V < 0∨5 < d.V
   ·rw[if_pos h2] at h0;cases h0
   rw[if_neg h2] at h0 ⊢
   by_cases h3:d.N < 1∨(zb w.consumers d.C).Id < d.N
   ·rw[if_pos h3] at h0;cases h0
   rw[if_neg h3] at h0 ⊢
   obtain ⟨s1,s2,s3,s4,s5,s6⟩:=z1h hw.good (q:=⟨4,d.N,d.V,maxC (zb w.consumers d.C) d.V,[],[]⟩) (by simp) h0
   rw[s5,hw40]
   exact hsay ⟨4,d.N,d.V,maxC (zb w.consumers d.C) d.V,[],[]⟩ (zb w.consumers d.C).Flags (.inr b12) hi ho s1 (.inr ⟨rfl,by show d.N≤_;omega⟩) s3 s4
  ·rw[if_pos h0];exact no _ h0
 ·omega
theorem OkW.cfit {w:Wld} (h:OkW w) {i:Int} (hi:0≤i∧i < 2):FitC 140737488351232 (zb w.consumers i):=(h.c i hi).fit h.d1
theorem zaoe {w:Wld} (h:OkW w):zcs w=some (w.p,w):=z72 h.fit
theorem zahc {w:Wld} (h:OkW w) {i:Int} (hi:0≤i∧i < 2):za0 i w=some (zb w.consumers i,w):=by
 rw[z73 fun hi=>h.cfit hi,if_pos hi]
theorem zaj6:zsm=some true:=by
 obtain ⟨e1,e2,e3⟩:=do_4
 rw[zsm,zu8,Tr.rb zag4,Tr.rb (zag7 z9z (by decide)),do_1,Tr.rb (zag7 okW1 (by decide)),do_2,Tr.rb (zag7 okW2 (by decide)),do_3,Tr.rb (zag7 okW3 (by decide))]
 simp only[e1]
 rw[Tr.rt (by rfl),Tr.rb (zaj4 _),Tr.rt (by rw[e2];rfl),Tr.rb (zahc okW4 (by omega)),Tr.rl,e3]
 rfl
theorem zahd {σ ρ τ:Type} {F:σ→Option (σ⊕ρ)} (n:Nat) (mk:Nat→τ→σ) (I:Nat→τ→Prop) (out:τ→ρ)
  (hend:∀ t,I n t→F (mk n t)=some (.inr (out t))) (hstep:∀ i t,i < n→I i t→∃ t',F (mk i t)=some (.inl (mk (i+1) t'))∧I (i+1) t') {t:τ} (h0:I 0 t):∃ t',zd3 F (mk 0 t)=some (out t')∧I n t':=by
 obtain ⟨r,h1,t',h2,h3⟩:=zf8 (F:=F) n mk I (fun _ _ r=>∃ t',r=out t'∧I n t') (fun t h=>⟨out t,hend t h,t,rfl,h⟩) (fun i t hi h=>by
  obtain ⟨t',k1,k2⟩:=hstep i t hi h
  exact .inl ⟨t',k1,k2,fun r hr=>hr⟩) 0 t (Nat.zero_le _) h0
 exact ⟨t',by rw[h1,h2],h3⟩
def z5r (l:List Deed):Nat:=min l.length 120
theorem zahe {l:List Deed}:((decide (((z5r l:Nat):Int) < ((l.length:Nat):Int)))&&(decide (((z5r l:Nat):Int) < 120)))=false:=by
 unfold z5r
 rw[Bool.and_eq_false_iff,yy8,yy8]
 omega
theorem zahf {l:List Deed} {i:Nat} (h:i < z5r l):((decide ((i:Int) < ((l.length:Nat):Int)))&&(decide ((i:Int) < 120)))=true:=by
 unfold z5r at h
 rw[yy7,decide_eq_true_eq,decide_eq_true_eq]
 omega
theorem zaj7 {l:List Deed} {i:Nat} (h:i < z5r l):i < l.length:=by unfold z5r at h;omega
theorem zyj (l:List Deed):Sl.len (.deeds l)=l.length:=rfl
def zasm (l:List Deed):Prop:=l.length≤4611686018427387904∧∀ d,d∈l→d.N≤9223372036854775807
theorem zaj8 {w:Wld} (d:Deed) (h:w.deeds < 600):(doW w d).1.deeds=w.deeds+1:=by
 have hp:∀ r,(zo5 (zat w) r).1.deeds=w.deeds+1:=by intro r;unfold zo5;split<;>rfl
 have hq:∀ i r,(putW (zat w) i r).1.deeds=w.deeds+1:=by intro i r;unfold putW;split<;>rfl
 unfold doW
 rw[if_neg (by omega)]
 unfold actW
 repeat' split
 ·exact hp _
 ·exact hp _
 ·exact hp _
 ·exact hp _
 ·unfold zadi;split<;>rfl
 ·unfold zke;split<;>rfl
 ·unfold zob
  repeat' split
  ·rfl
  ·rfl
  ·rfl
  ·unfold zyh;split<;>rfl
  ·unfold ztf;split<;>rfl
  ·unfold z3h;split<;>rfl
  ·unfold zoa;repeat' split
   all_goals rfl
  ·unfold zsy;split<;>rfl
  ·exact hq _ _
  ·exact hq _ _
  ·rfl
structure Grow (w w':Wld) (i:Int):Prop where
 link:(ze w.p.Links i).Out.Said <+: (ze w'.p.Links i).Out.Said
 cons:(zb w.consumers i).Out.Said <+: (zb w'.consumers i).Out.Said
theorem Grow.one {w w':Wld} {i j:Int} {c:zc} (hj:0≤j∧j < 2) (hi:0≤i∧i < 2) (hl:(ze w.p.Links i).Out.Said <+: (ze w'.p.Links i).Out.Said) (hc:w'.consumers=zk0 w.consumers j c) (h:(zb w.consumers j).Out.Said <+: c.Out.Said):Grow w w' i:=by
 refine ⟨hl,?_⟩
 rw[hc,zj1 hj hi]
 split
 ·rename_i e;rw[e];exact h
 ·exact List.prefix_refl _
def DeadI (s t:Stake):Prop:=∀ v:Int,0≤v→v < 6→(s.Validators.Dead.get v=true→t.Validators.Dead.get v=true)∧s.Validators.Lost.get v≤t.Validators.Lost.get v∧(s.Validators.Lost.get v < t.Validators.Lost.get v→s.Validators.Dead.get v=false∧t.Validators.Dead.get v=true)
theorem DeadI.same {s t:Stake} (h1:t.Validators.Dead=s.Validators.Dead) (h2:t.Validators.Lost=s.Validators.Lost):DeadI s t:=by
 intro v _ _
 rw[h1,h2]
 exact ⟨id,Int.le_refl _,fun h=>absurd h (Int.lt_irrefl _)⟩
theorem DeadI.refl (s:Stake):DeadI s s:=.same rfl rfl
theorem DeadI.trans {s t u:Stake} (h:DeadI s t) (k:DeadI t u):DeadI s u:=by
 intro v h0 h6
 obtain ⟨a1,a2,a3⟩:=h v h0 h6
 obtain ⟨b1,b2,b3⟩:=k v h0 h6
 refine ⟨fun x=>b1 (a1 x),by omega,fun x=>?_⟩
 by_cases e:s.Validators.Lost.get v < t.Validators.Lost.get v
 ·exact ⟨(a3 e).1,b1 (a3 e).2⟩
 ·obtain ⟨c1,c2⟩:=b3 (by omega)
  refine ⟨?_,c2⟩
  cases hd:s.Validators.Dead.get v with
  | false=>rfl
  | true=>rw[a1 hd] at c1;cases c1
def pkT (q:Packet):ByteArray:=txt (znm q)
theorem zaof {p q:Packet} (hp:zct p=0) (hq:zct q=0) (h:pkT p=pkT q):p=q:=by
 have h1:znm p=znm q:=by have:=congrArg (fun b:ByteArray=>b.data.toList) h;exact this
 have h2:=z4y hp
 rw[h1,z4y hq] at h2
 exact (congrArg Prod.fst h2).symm
def z5s (s:List Power) (l:List Packet):List Power:=l.foldl (fun s q=>zn4 s q.Set) s
theorem z76 (s:List Power) (l m:List Packet):z5s s (l++m)=z5s (z5s s l) m:=List.foldl_append
def z77 (id:Int) (l:List Packet):Int:=l.foldl (fun _ q=>q.Id) id
def z2e:Int→List Packet→Prop
 | _,[]=>True
 | id,q::l=>id < q.Id∧z2e q.Id l
theorem rises_app:∀ {l m:List Packet} {id:Int},z2e id (l++m)↔z2e id l∧z2e (z77 id l) m
 | [],m,id=>by simp[z2e,z77]
 | q::l,m,id=>by
  simp only[List.cons_append,z2e]
  rw[rises_app (l:=l)]
  exact ⟨fun ⟨a,b,c⟩=>⟨⟨a,b⟩,c⟩,fun ⟨⟨a,b⟩,c⟩=>⟨a,b,c⟩⟩
theorem z5t {n:Int}:∀ {l:List Packet} {id:Int},id≤n→(∀ q,q∈l→q.Id≤n)→z77 id l≤n
 | [],_,h,_=>h
 | q::l,_,_,h=>z5t (l:=l) (h q (List.mem_cons_self ..)) (fun r hr=>h r (List.mem_cons_of_mem _ hr))
theorem z1j {now:Int}:∀ (l:List Packet) (c:zc),(l.foldl (znh now) c).Set=z5s c.Set l∧(l.foldl (znh now) c).Id=z77 c.Id l
 | [],_=>⟨rfl,rfl⟩
 | q::l,c=>by
  obtain ⟨h1,h2⟩:=z1j l (znh now c q)
  rw[ztb] at h1 h2
  rw[List.foldl_cons,ztb]
  exact ⟨h1,h2⟩
structure WayI (w:Wld) (i:Int) (ms:List Packet):Prop where
 way:(ze w.p.Links i).Out.Said.drop (ze w.p.Links i).Out.Got.toNat=ms.map pkT
 good:∀ q,q∈ms→zct q=0∧q.Kind=1
 rise:z2e (zb w.consumers i).Id ((zb w.consumers i).Pending++ms)
 id:(zb w.consumers i).Id≤w.p.Height
 ids:∀ q,q∈(zb w.consumers i).Pending++ms→q.Id≤w.p.Height
 told:z5s (zb w.consumers i).Set ((zb w.consumers i).Pending++ms)=(ze w.p.Links i).Told
theorem WayI.same {w w':Wld} {i:Int} {ms:List Packet} (h:WayI w i ms) (e1:(ze w'.p.Links i).Out.Said=(ze w.p.Links i).Out.Said) (e2:(ze w'.p.Links i).Out.Got=(ze w.p.Links i).Out.Got) (e3:(ze w'.p.Links i).Told=(ze w.p.Links i).Told)
  (e4:(zb w'.consumers i).Id=(zb w.consumers i).Id) (e5:(zb w'.consumers i).Pending=(zb w.consumers i).Pending) (e6:(zb w'.consumers i).Set=(zb w.consumers i).Set) (e7:w.p.Height≤w'.p.Height):WayI w' i ms:=by
 obtain ⟨a1,a2,a3,a4,a5,a6⟩:=h
 exact ⟨by rw[e1,e2];exact a1,a2,by rw[e4,e5];exact a3,by rw[e4];omega,fun q hq=>by rw[e5] at hq;have:=a5 q hq;omega,by rw[e5,e6,e3];exact a6⟩
theorem WayI.cons {w w':Wld} {i j:Int} {ms:List Packet} {c:zc} (hj:0≤j∧j < 2) (hi:0≤i∧i < 2) (h:WayI w i ms) (hl:(ze w'.p.Links i).Out.Said=(ze w.p.Links i).Out.Said∧(ze w'.p.Links i).Out.Got=(ze w.p.Links i).Out.Got∧(ze w'.p.Links i).Told=(ze w.p.Links i).Told)
  (hc:w'.consumers=zk0 w.consumers j c) (h1:c.Id=(zb w.consumers j).Id) (h2:c.Pending=(zb w.consumers j).Pending) (h3:c.Set=(zb w.consumers j).Set) (hH:w.p.Height≤w'.p.Height):WayI w' i ms:=by
 have e:=zj1 (C:=w.consumers) hj hi c
 refine h.same hl.1 hl.2.1 hl.2.2 ?_ ?_ ?_ hH
 all_goals
  rw[hc,e]
  split
  ·rename_i k;rw[k];assumption
  ·rfl
def zaog (w:Wld):Prop:=∀ i:Int,0≤i∧i < 2→(zb w.consumers i).On=true→∃ ms,WayI w i ms
theorem zahg {α:Type} {l:List α} {x:α} {k:Nat} (h:k≤l.length):(l++[x]).drop k=l.drop k++[x]:=List.drop_append_of_le_length h
theorem zadw {l:List Power} (hl:l.length≤9223372036854775807):zeo l l=some true:=by
 have key:zgv l l 0=some (.inr ()):=by
  rw[zgv]
  refine (zaa1 (F:=fun s:(List Power)×(List Power)×Int=>(zc4 s.1 s.2.1 s.2.2).run) l default (fun i=>(l,l,(i:Int))) (fun _=>true) false () ?_ ?_ ?_).trans ?_
  ·simp only[zc4];rw[Tr.rf (by simp),Tr.rl]
  ·intro i hi _
   simp only[zc4,yy4]
   rw[Tr.rt (by simpa using hi),Tr.rg ⟨by omega,by rw[zar];omega⟩,Tr.rg ⟨by omega,by rw[zar];omega⟩,Tr.rf (by simp),Tr.rl,zx (by omega)]
  ·intro i hi hp;cases hp
  ·rw[if_pos (by simp)]
 rw[zeo,zlf,Tr.rf (by simp),Tr.rj key,Tr.rl]
def hN (x:Wait) (i:Int):Int:=if i=0 then x.h0 else x.h1
structure Near (y x:Wait):Prop where
 num:x.Number=y.Number
 due:x.Due=y.Due
 height:x.Height=y.Height
 v:x.V=y.V
 hold:∀ i:Int,0≤i∧i < 2→hN x i=hN y i∨hN x i=0
theorem Near.refl (x:Wait):Near x x:=⟨rfl,rfl,rfl,rfl,fun _ _=>.inl rfl⟩
theorem Near.trans {a b c:Wait} (h:Near a b) (k:Near b c):Near a c :=
 ⟨k.num.trans h.num,k.due.trans h.due,k.height.trans h.height,k.v.trans h.v,fun i hi=>by
  rcases k.hold i hi with e | e
  ·rw[e];exact h.hold i hi
  ·exact .inr e⟩
def NearW (W W':List Wait):Prop:=∀ x,x∈W'→∃ y,y∈W∧Near y x
theorem NearW.refl (W:List Wait):NearW W W:=fun x hx=>⟨x,hx,.refl x⟩
theorem NearW.trans {A B C:List Wait} (h:NearW A B) (k:NearW B C):NearW A C:=fun x hx=>by
 obtain ⟨y,hy,n1⟩:=k x hx
 obtain ⟨z,hz,n2⟩:=h y hy
 exact ⟨z,hz,n2.trans n1⟩
theorem NearW.map {W:List Wait} {f:Wait→Wait} (hf:∀ x,Near x (f x)):NearW W (W.map f):=fun x hx=>by
 obtain ⟨y,hy,rfl⟩:=List.mem_map.1 hx
 exact ⟨y,hy,hf y⟩
theorem zadx {C:zb7} {i j:Int} (hj:0≤j∧j < 2) (hi:0≤i∧i < 2) (c:zc):(i=j∧zb (zk0 C j c) i=c)∨(i≠j∧zb (zk0 C j c) i=zb C i):=by
 by_cases e:i=j
 ·exact .inl ⟨e,by rw[e];exact zd2 hj c⟩
 ·exact .inr ⟨e,zcw hj hi e c⟩
structure OneI (w:Wld) (i:Int):Prop where
 o1:(ze w.p.Links i).Out.Closed=false
 o2:(zb w.consumers i).Out.Closed=false
 n1:(((ze w.p.Links i).Out.Said.length:Nat):Int)≤w.p.Height
 rip:∀ r,r∈(zb w.consumers i).Ripes→r.Due≤w.clock+15
theorem OneI.same {w w':Wld} {i:Int} (h:OneI w i) (e1:(ze w'.p.Links i).Out.Closed=(ze w.p.Links i).Out.Closed) (e2:(ze w'.p.Links i).Out.Said=(ze w.p.Links i).Out.Said) (e3:(zb w'.consumers i).Out.Closed=(zb w.consumers i).Out.Closed)
  (e4:(zb w'.consumers i).Ripes=(zb w.consumers i).Ripes) (e5:w.p.Height≤w'.p.Height) (e6:w.clock≤w'.clock):OneI w' i:=by
 obtain ⟨a1,a2,a3,a4⟩:=h
 exact ⟨by rw[e1];exact a1,by rw[e3];exact a2,by rw[e2];omega,fun r hr=>by rw[e4] at hr;have:=a4 r hr;omega⟩
structure OneW (w:Wld):Prop where
 one:∀ i:Int,0≤i∧i < 2→(zb w.consumers i).On=true→OneI w i
 met:w.p.Meter.Next≤w.clock+10
theorem OneW.cons {w w':Wld} (h:OneW w) {j:Int} (hj:0≤j∧j < 2) {c:zc} (hc:w'.consumers=zk0 w.consumers j c) (hon:(zb w.consumers j).On=true)
  (hl:∀ i:Int,0≤i∧i < 2→(ze w'.p.Links i).Out.Closed=(ze w.p.Links i).Out.Closed∧(ze w'.p.Links i).Out.Said=(ze w.p.Links i).Out.Said)
  (h1:c.Out.Closed=(zb w.consumers j).Out.Closed) (h2:∀ r,r∈c.Ripes→r.Due≤w.clock+15) (hH:w'.p.Height=w.p.Height) (hM:w'.p.Meter=w.p.Meter) (ht:w'.clock=w.clock):OneW w':=by
 refine ⟨fun i hi ho=>?_,by rw[hM,ht];exact h.met⟩
 rw[hc] at ho
 obtain ⟨l1,l2⟩:=hl i hi
 rcases zadx (C:=w.consumers) hj hi c with ⟨e,ec⟩ | ⟨e,ec⟩
 ·subst e
  obtain ⟨a1,a2,a3,a4⟩:=h.one i hi hon
  exact ⟨by rw[l1];exact a1,by rw[hc,ec,h1];exact a2,by rw[l2,hH];exact a3,fun r hr=>by rw[hc,ec] at hr;rw[ht];exact h2 r hr⟩
 ·rw[ec] at ho
  exact (h.one i hi ho).same l1 l2 (by rw[hc,ec]) (by rw[hc,ec]) (by rw[hH];exact Int.le_refl _) (by rw[ht];exact Int.le_refl _)
def Wit (w:Wld) (i h:Int):Prop :=
 ((ze w.p.Links i).Fresh=true∧h≤w.p.Height+1) ∨
 (∃ q,(q∈(zb w.consumers i).Pending∨zct q=0∧pkT q∈(ze w.p.Links i).Out.Said.drop (ze w.p.Links i).Out.Got.toNat)∧h≤q.Id) ∨
 (∃ r,r∈(zb w.consumers i).Ripes∧h≤r.Id) ∨
 (∃ q,zct q=0∧q.Kind=2∧pkT q∈(zb w.consumers i).Out.Said.drop (zb w.consumers i).Out.Got.toNat∧h≤q.Id) ∨
 (∃ a,a∈w.p.Queue∧a.C=i∧a.P.Kind=2∧h≤a.P.Id)
theorem Wit.mono {w w':Wld} {i h:Int} (k:Wit w i h) (f:(ze w.p.Links i).Fresh=true→(ze w'.p.Links i).Fresh=true) (H:w.p.Height≤w'.p.Height)
  (P:∀ q,q∈(zb w.consumers i).Pending→q∈(zb w'.consumers i).Pending)
  (S:∀ s,s∈(ze w.p.Links i).Out.Said.drop (ze w.p.Links i).Out.Got.toNat→s∈(ze w'.p.Links i).Out.Said.drop (ze w'.p.Links i).Out.Got.toNat)
  (R:∀ r,r∈(zb w.consumers i).Ripes→r∈(zb w'.consumers i).Ripes)
  (B:∀ s,s∈(zb w.consumers i).Out.Said.drop (zb w.consumers i).Out.Got.toNat→s∈(zb w'.consumers i).Out.Said.drop (zb w'.consumers i).Out.Got.toNat)
  (Q:∀ a,a∈w.p.Queue→a.C=i→a∈w'.p.Queue):Wit w' i h:=by
 rcases k with ⟨k1,k2⟩ | ⟨q,k1,k2⟩ | ⟨r,k1,k2⟩ | ⟨q,k0,k1,k2,k3⟩ | ⟨a,k0,k1,k2,k3⟩
 ·exact .inl ⟨f k1,by omega⟩
 ·refine .inr (.inl ⟨q,?_,k2⟩)
  rcases k1 with k1 | ⟨k1,k3⟩
  ·exact .inl (P q k1)
  ·exact .inr ⟨k1,S _ k3⟩
 ·exact .inr (.inr (.inl ⟨r,R r k1,k2⟩))
 ·exact .inr (.inr (.inr (.inl ⟨q,k0,k1,B _ k2,k3⟩)))
 ·exact .inr (.inr (.inr (.inr ⟨a,Q a k0 k1,k1,k2,k3⟩)))
structure zayc (w:Wld) (x:Wait):Prop where
 due:x.Due≤w.clock+20
 height:x.Height≤w.p.Height+1
 top:∀ i:Int,0≤i∧i < 2→0≤hN x i∧hN x i≤w.p.Height+1
 hold:∀ i:Int,0≤i∧i < 2→0 < hN x i→(zb w.consumers i).On=true∧Wit w i (hN x i)
def HoldW (w:Wld):Prop:=∀ x,x∈w.p.Stake.Waits→zayc w x
theorem HoldW.keep {w w':Wld} (h:HoldW w) (hp:0≤w.p.Height) (hW:NearW w.p.Stake.Waits w'.p.Stake.Waits) (hH:w'.p.Height=w.p.Height) (ht:w.clock≤w'.clock)
  (hk:∀ i n:Int,0≤i∧i < 2→(zb w.consumers i).On=true→Wit w i n→(zb w'.consumers i).On=true∧Wit w' i n):HoldW w':=by
 intro x hx
 obtain ⟨y,hy,n⟩:=hW x hx
 obtain ⟨a1,a2,a3,a4⟩:=h y hy
 refine ⟨by rw[n.due];omega,by rw[n.height,hH];exact a2,fun i hi=>?_,fun i hi h0=>?_⟩
 ·rw[hH]
  rcases n.hold i hi with e | e
  ·rw[e];exact a3 i hi
  ·rw[e];omega
 ·rcases n.hold i hi with e | e
  ·rw[e] at h0 ⊢
   obtain ⟨k1,k2⟩:=a4 i hi h0
   exact hk i _ hi k1 k2
  ·omega
theorem HoldW.one {w w':Wld} (h:OkW w) (hh:HoldW w) {j:Int} (hj:0≤j∧j < 2) (hW:w'.p.Stake.Waits=w.p.Stake.Waits) (hH:w'.p.Height=w.p.Height) (ht:w'.clock=w.clock)
  (hl:∀ i:Int,0≤i∧i < 2→i≠j→ze w'.p.Links i=ze w.p.Links i∧zb w'.consumers i=zb w.consumers i) (hQ:∀ a,a∈w.p.Queue→a∈w'.p.Queue)
  (hon:(zb w'.consumers j).On=(zb w.consumers j).On) (hk:∀ n:Int,Wit w j n→Wit w' j n):HoldW w':=by
 refine hh.keep h.p.2.1.1 (by rw[hW];exact .refl _) hH (by rw[ht];exact Int.le_refl _) fun i n hi ho k=>?_
 by_cases e:i=j
 ·subst e;exact ⟨hon.trans ho,hk n k⟩
 ·obtain ⟨e1,e2⟩:=hl i hi e
  exact ⟨by rw[e2];exact ho,k.mono (by rw[e1];exact id) (by rw[hH];exact Int.le_refl _) (by rw[e2];exact fun _ h=>h) (by rw[e1];exact fun _ h=>h) (by rw[e2];exact fun _ h=>h) (by rw[e2];exact fun _ h=>h) (fun a ha _=>hQ a ha)⟩
def fwdN (w:Wld) (i:Int):Int:=(((ze w.p.Links i).Out.Said.length:Nat):Int) - (ze w.p.Links i).Out.Got
def sdN (w:Wld) (i:Int):Int:=(((zb w.consumers i).Out.Said.length:Nat):Int)
def bckN (w:Wld) (i:Int):Int:=sdN w i - (zb w.consumers i).Out.Got
def zahh (w:Wld) (i:Int):Int:=(((zb w.consumers i).Pending.length+(zb w.consumers i).Ripes.length:Nat):Int)
def cntN (w:Wld) (i:Int):Int:=sdN w i+zahh w i+fwdN w i
def phiN (w:Wld) (i:Int):Int:=if (zb w.consumers i).On=true then 2*fwdN w i+zahh w i+bckN w i+2 else 0
structure Meas (w w':Wld) (i a b:Int):Prop where
 cnt:(zb w'.consumers i).On=true→cntN w' i≤(if (zb w.consumers i).On=true then cntN w i else 0)+a
 phi:phiN w' i≤phiN w i+b
theorem Meas.of {w w':Wld} {i a b:Int} (ho:(zb w'.consumers i).On=(zb w.consumers i).On) (x y z u:Int) (e1:fwdN w' i=fwdN w i+x) (e2:zahh w' i=zahh w i+y) (e3:bckN w' i=bckN w i+z) (e4:sdN w' i=sdN w i+u)
  (k1:u+y+x≤a) (k2:2*x+y+z≤b) (k3:0≤b):Meas w w' i a b:=by
 refine ⟨fun h=>?_,?_⟩
 ·rw[ho] at h
  rw[if_pos h]
  unfold cntN;omega
 ·unfold phiN
  rw[ho]
  split<;>omega
theorem Meas.same {w w':Wld} {i a b:Int} (h1:zb w'.consumers i=zb w.consumers i) (h2:(ze w'.p.Links i).Out=(ze w.p.Links i).Out) (ha:0≤a) (hb:0≤b):Meas w w' i a b :=
 .of (by rw[h1]) 0 0 0 0 (by unfold fwdN;rw[h2];omega) (by unfold zahh;rw[h1];omega) (by unfold bckN sdN;rw[h1];omega) (by unfold sdN;rw[h1];omega) (by omega) (by omega) hb
structure zayd (w:Wld):Prop where
 ok:OkW w
 told:zaog w
 one:OneW w
 hold:HoldW w
 h4:w.p.Height < 399
